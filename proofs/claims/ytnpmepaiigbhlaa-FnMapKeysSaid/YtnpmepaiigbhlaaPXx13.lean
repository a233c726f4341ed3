-- Written by a program of this workplace (wip/xprint.py over the kit's print.py) out of the translation.
import Derived.Test.YtnpmepaiigbhlaaPXx0
import Derived.Test.YtnpmepaiigbhlaaPXx2
import Derived.Test.YtnpmepaiigbhlaaPXx9
import Derived.Test.YtnpmepaiigbhlaaPXx12
namespace Go.Proofs.Ytnpmepaiigbhlaa.PX
open Go.RowKit Go.Proofs.YtnpmepaiigbhlaaW.PrintWords Go.Proofs.YtnpmepaiigbhlaaW.PrintLast Go.Proofs.YtnpmepaiigbhlaaW.PrintMore
attribute [local go_sem] max2_int min2_int max_two min_two max_three min_three max_four min_four   -- for this text's walks alone
set_option linter.unusedVariables false
set_option linter.unusedSimpArgs false

/-! ### impl_MapHouse: function 27 -/
theorem isSlot_eq (s : Int) : impl_isSlot.f s = some (decide (0 ≤ s ∧ s ≤ 7)) := by
  unfold impl_isSlot.f impl_within.f
  by_cases h : (0 : Int) ≤ s <;> simp [h]
set_option maxHeartbeats 8000000 in
set_option maxRecDepth 100000 in
theorem impl_houseBy_yes (k : Nat) (a0_0 : Int) (A0_1 : Option Addr) (c0_1 : Nat) (l0_1 : List Int) (w : World) (hr0_1 : Kd.C (Kd.int .i64) w A0_1 l0_1.length l0_1) (hc0_1 : l0_1.length ≤ c0_1) (h8 : l0_1.length = 8) (h : impl_MapOk.f k a0_0 l0_1 = some true) :
    Calls Try.prog 54 #[.agg #[.int .i64 a0_0, .slice A0_1 l0_1.length c0_1]] w fun e w' => ∃ g, e = .returned (.func (.func 67) #[] #[.pointer (some ⟨g, 0, none⟩)]) ∧ w'.heap[g]? = some (.cells (l0_1.map (Value.int .i64)).toArray 61 (0, 0)) ∧ Below w.heap.size w w' := by
  have hu27 := Try.underlying27
  have hu61 := Try.underlying61
  obtain ⟨x0, x1, x2, x3, x4, x5, x6, x7, rfl⟩ : ∃ x0 x1 x2 x3 x4 x5 x6 x7 : Int, l0_1 = [x0, x1, x2, x3, x4, x5, x6, x7] := by
    match l0_1, h8 with
    | [x0, x1, x2, x3, x4, x5, x6, x7], _ => exact ⟨_, _, _, _, _, _, _, _, rfl⟩
  have HR := Aside0.mk hr0_1
  have HC := Aside0.mk hc0_1
  obtain ⟨ad, rfl, hcell⟩ := C_cells hr0_1 (by simp)
  have HCE := Aside0.mk hcell
  have H := Aside0.mk h
  clear hr0_1 hc0_1 h8 h hcell
  have hat : ∀ W : World, (Instr.arrayAt 61 (.slice (some ad) 8 c0_1)).run Try.prog W = .ok (.pointer (some ad)) W := fun W => run_arrayAt W 61 _ 8 _ 8 c0_1 Try.underlying61 (by decide)
  go_enter Try.func54, Try.ntmps54
  go_wp2_with (fail)
  refine (impl_MapOk.calls k a0_0 (some ad) c0_1 _ true _ (Kd.C_below HR.out (below_alloc (Below.refl _ _) _)) HC.out H.out).mono ?_
  rintro e w1 ⟨rfl, hb⟩
  have BK := Aside0.mk (blk_below (blk_new w _) hb)
  have HB := Aside0.mk (below_then (below_alloc (Below.refl _ _) _) (by simp) hb)
  clear hb
  have hc1 : w1.cell? ⟨w.heap.size, 1, none⟩ = some (.slice (some ad) 8 c0_1) := (blk_cell BK.out 1).trans rfl
  go_wp2_with ((with_reducible refine gate_dst (N := 10) rfl ?_); refine wpList_load_cells rfl 61 (.tmp 9) rfl ad rfl ([x0, x1, x2, x3, x4, x5, x6, x7].map (Value.int .i64)) _ (fun j v hj => (HB.out.cell (World.block_lt_of_cell? w _ (HCE.out j v hj))).trans (HCE.out j v hj)) Try.underlying61 rfl (by kernel_rfl) ?_)
  go_ret
  exact ⟨w1.heap.size, rfl, blk_new _ _, below_alloc HB.out _⟩

set_option maxHeartbeats 8000000 in
set_option maxRecDepth 100000 in
theorem impl_houseBy_no (k : Nat) (a0_0 : Int) (A0_1 : Option Addr) (c0_1 : Nat) (l0_1 : List Int) (w : World) (hr0_1 : Kd.C (Kd.int .i64) w A0_1 l0_1.length l0_1) (hc0_1 : l0_1.length ≤ c0_1) (h : impl_MapOk.f k a0_0 l0_1 = some false) :
    Calls Try.prog 54 #[.agg #[.int .i64 a0_0, .slice A0_1 l0_1.length c0_1]] w fun e w' => e = .returned (.func (.func 66) #[] #[]) ∧ Below w.heap.size w w' := by
  have HR := Aside0.mk hr0_1
  have HC := Aside0.mk hc0_1
  have H := Aside0.mk h
  clear hr0_1 hc0_1 h
  go_enter Try.func54, Try.ntmps54
  go_wp2_with (fail)
  refine (impl_MapOk.calls k a0_0 A0_1 c0_1 _ false _ (Kd.C_below HR.out (below_alloc (Below.refl _ _) _)) HC.out H.out).mono ?_
  rintro e w1 ⟨rfl, hb⟩
  have HB := Aside0.mk (below_then (below_alloc (Below.refl _ _) _) (by simp) hb)
  clear hb
  go_wp2_with (fail)
  go_ret
  exact ⟨rfl, HB.out⟩
set_option maxHeartbeats 8000000 in
set_option maxRecDepth 100000 in
theorem impl_houseBy_out (s : Int) (w : World) : Calls Try.prog 66 #[.int .i64 s] w fun e w' => e = .returned (.int .i64 (-1)) ∧ w = w' := by
  go_enter Try.func66, Try.ntmps66
  go_wp2
  go_ret
  exact ⟨rfl, rfl⟩
set_option maxHeartbeats 8000000 in
set_option maxRecDepth 100000 in
theorem impl_houseBy_in (s : Int) (g : Nat) (l : List Int) (w : World) (h8 : l.length = 8) (h : w.heap[g]? = some (.cells (l.map (Value.int .i64)).toArray 61 (0, 0))) :
   Calls Try.prog 67 #[.int .i64 s, .pointer (some ⟨g, 0, none⟩)] w fun e w' => e = .returned (.int .i64 (if 0 ≤ s ∧ s ≤ 7 then rd l s else -1)) ∧ Drawn0 w w' := by
  have H8 := Aside0.mk h8
  have BK := Aside0.mk h
  clear h8 h
  by_cases hs : 0 ≤ s ∧ s ≤ 7
  · rw [if_pos hs]
    have hx : w.cell? ⟨g, s.toNat, none⟩ = some (.int .i64 (rd l s)) := by
      rw [blk_cell BK.out s.toNat]
      have hl : s.toNat < l.length := by have := H8.out; omega
      simp [rd, List.getElem?_eq_getElem hl, List.getD_eq_getElem?_getD]
    have hd := Aside0.mk (decide_eq_true hs)
    have p : (0 ≤ s) = True := eq_true hs.1
    have q : (s < 8) = True := eq_true (by omega)
    have p2 : decide (0 ≤ s) = true := by simp [p]
    clear hs
    go_enter Try.func67, Try.ntmps67
    go_wp2_with (fail)
    refine (impl_isSlot.calls s true _ ((isSlot_eq s).trans (congrArg some hd.out))).mono ?_
    rintro e w2 ⟨rfl, ⟨nd, rfl⟩⟩
    go_wp2_with (fail)
    go_ret
    exact ⟨rfl, ⟨_, rfl⟩⟩
  · rw [if_neg hs]
    have hd := Aside0.mk (decide_eq_false hs)
    clear hs
    go_enter Try.func67, Try.ntmps67
    go_wp2_with (fail)
    refine (impl_isSlot.calls s false _ ((isSlot_eq s).trans (congrArg some hd.out))).mono ?_
    rintro e w2 ⟨rfl, ⟨nd, rfl⟩⟩
    go_wp2_with (fail)
    go_ret
    exact ⟨rfl, ⟨_, rfl⟩⟩
def impl_MapHouse.f (k : Nat) (a0_0 : Int) (l0_1 : List Int) (a1 : Int) : Option (Int) := (impl_MapOk.f k a0_0 l0_1).bind fun ok => (impl_MapSlot.f a1).bind fun s => (if ok = true then (if l0_1.length = 8 then (if 0 ≤ s ∧ s ≤ 7 then some (rd l0_1 s) else some (-1)) else none) else some (-1))
theorem impl_MapHouse.mono : ∀ a0 a1 a2 k, LeO (impl_MapHouse.f k a0 a1 a2) (impl_MapHouse.f (k + 1) a0 a1 a2) := by
  intro a0 a1 a2 k
  unfold impl_MapHouse.f
  repeat' first
      | (with_reducible exact impl_MapOk.mono _ _ _)
      | (with_reducible exact LeO.refl _)
      | (with_reducible exact LeO.none _)
      | (with_reducible refine LeO.ite ?_ ?_)
      | (with_reducible refine LeO.bind ?_ (fun _ => ?_))
      | exact impl_MapOk.mono _ _ _
      | exact LeO.none _
      | refine LeO.ite ?_ ?_
      | refine LeO.bind ?_ (fun _ => ?_)
set_option maxHeartbeats 8000000 in
set_option maxRecDepth 100000 in
theorem impl_MapHouse.calls (k : Nat) (a0_0 : Int) (A0_1 : Option Addr) (c0_1 : Nat) (l0_1 : List Int) (a1 : Int) (r : Int) (w : World) (hr0_1 : Kd.C (Kd.int .i64) w A0_1 l0_1.length l0_1) (hc0_1 : l0_1.length ≤ c0_1) (h : impl_MapHouse.f k a0_0 l0_1 a1 = some r) :
    Calls Try.prog 27 #[.agg #[.int .i64 a0_0, .slice A0_1 l0_1.length c0_1], .int .i64 a1] w fun e w' => e = .returned (.int .i64 r) ∧ Below w.heap.size w w' := by
  have HR := Aside0.mk hr0_1
  have HC := Aside0.mk hc0_1
  clear hr0_1 hc0_1
  unfold impl_MapHouse.f at h
  obtain ⟨ok, A1, h⟩ := Option.bind_eq_some_iff.mp h
  obtain ⟨s, A2, h⟩ := Option.bind_eq_some_iff.mp h
  have A1 := Aside0.mk A1
  have A2 := Aside0.mk A2
  cases ok with
  | false =>
    rw [if_neg (by decide)] at h
    obtain rfl := Option.some.inj h
    clear h
    go_enter Try.func27, Try.ntmps27
    go_wp2_with (fail)
    refine (impl_houseBy_no k a0_0 A0_1 c0_1 l0_1 _ (Kd.C_below HR.out (below_alloc (Below.refl _ _) _)) HC.out A1.out).mono ?_
    rintro e w1 ⟨rfl, hb⟩
    have HB := Aside0.mk (below_then (below_alloc (Below.refl _ _) _) (by simp) hb)
    clear hb
    go_wp2_with (fail)
    refine (impl_MapSlot.calls a1 s _ A2.out).mono ?_
    rintro e w2 ⟨rfl, ⟨nd, rfl⟩⟩
    go_wp2_with (fail)
    refine (impl_houseBy_out s _).mono ?_
    rintro e w3 ⟨rfl, rfl⟩
    go_wp2_with (fail)
    go_ret
    exact ⟨rfl, pw_below_drewN HB.out _⟩
  | true =>
    rw [if_pos rfl] at h
    by_cases h8 : l0_1.length = 8
    · rw [if_pos h8] at h
      have H8 := Aside0.mk h8
      have HV := Aside0.mk (show (if 0 ≤ s ∧ s ≤ 7 then rd l0_1 s else -1) = r by
        by_cases hs : 0 ≤ s ∧ s ≤ 7
        · rw [if_pos hs] at h ⊢; exact Option.some.inj h
        · rw [if_neg hs] at h ⊢; exact Option.some.inj h)
      clear h8 h
      go_enter Try.func27, Try.ntmps27
      go_wp2_with (fail)
      refine (impl_houseBy_yes k a0_0 A0_1 c0_1 l0_1 _ (Kd.C_below HR.out (below_alloc (Below.refl _ _) _)) HC.out H8.out A1.out).mono ?_
      rintro e w1 ⟨g, rfl, hg, hb⟩
      have BK := Aside0.mk hg
      have HB := Aside0.mk (below_then (below_alloc (Below.refl _ _) _) (by simp) hb)
      clear hb hg
      go_wp2_with (fail)
      refine (impl_MapSlot.calls a1 s _ A2.out).mono ?_
      rintro e w2 ⟨rfl, ⟨nd, rfl⟩⟩
      go_wp2_with (fail)
      refine (impl_houseBy_in s g l0_1 (w1.drewN nd) H8.out BK.out).mono ?_
      rintro e w3 ⟨rfl, ⟨nd2, rfl⟩⟩
      rw [HV.out]
      go_wp2_with (fail)
      go_ret
      exact ⟨rfl, by repeat (first | exact HB.out | apply pw_below_drewN)⟩
    · rw [if_neg h8] at h
      cases h

end Go.Proofs.Ytnpmepaiigbhlaa.PX
