/- What the lock's small helpers do: the list filter that splits in two, the test whether a lock may be held, and their closures. -/
import Derived.Test.YtjldpnhlegbjkaaPAx0
import Derived.Test.YtjldpnhlegbjkaaPAx21
import Derived.Test.YtjldpnhlegbjkaaPAx24
import Derived.Test.YtjldpnhlegbjkaaPAx26
import Derived.Test.YtjldpnhlegbjkaaPAx27
import Derived.Test.YtjldpnhlegbjkaaPAx28
import Derived.Laws.CopyRow
import Derived.Laws.Externs
namespace Go.Proofs.Ytjldpnhlegbjkaa.PA
open Go.RowKit Go.Proofs.YtjldpnhlegbjkaaW.PrintWords Go.Proofs.YtjldpnhlegbjkaaW.PrintLast Go.Proofs.YtjldpnhlegbjkaaW.PrintMore
attribute [local go_sem] max2_int min2_int max_two min_two max_three min_three max_four min_four
set_option linter.unusedVariables false
set_option linter.unusedSimpArgs false
set_option maxHeartbeats 8000000 in
set_option maxRecDepth 100000 in
theorem idxH73 (v1 : Value) (p : S45 → Bool) (A0 : Option Addr) (c0 : Nat) (l0 : List S45) (w : World) (hr0 : Kd.C k45 w A0 l0.length l0) (hc0 : l0.length ≤ c0)
    (hp : ∀ (x : S45) (W : World), Below w.heap.size w W → Calls Try.prog 73 #[.agg #[.int .i64 x.f0, .int .i64 x.f1, .bool x.f2, .bool x.f3], v1] W fun e w' => e = .returned (.bool (p x)) ∧ Below W.heap.size W w') :
    Calls Try.prog 69 #[.slice A0 l0.length c0, .func (.func 73) #[] #[v1]] w fun e w' => ∃ i : Int, e = .returned (.int .i64 i) ∧ decide (0 ≤ i) = l0.any p ∧ Below w.heap.size w w' := by
  have HR := Aside0.mk hr0
  have HC := Aside0.mk hc0
  have HP := Aside0.mk hp
  have HM := Aside0.mk (show l0.length ≤ 9223372036854775807 from hr0.2.1)
  clear hr0 hc0 hp
  go_enter Try.func69, Try.ntmps69
  go_wp2_with (fail)
  go_loopw [8] (fun i wr => ∃ x : Nat, Aside0 (x ≤ l0.length) ∧ i = .int .i64 (x : Int) ∧ Aside0 (∀ j : Nat, j < x → p (rd_T45 l0 (j : Int)) = false) ∧ Aside0 (Below w.heap.size w wr)) (fun i _ => l0.length - (intOf i).toNat)
  case atStart => exact ⟨0, ⟨by omega⟩, rfl, ⟨fun j hj => absurd hj (by omega)⟩, ⟨by first | exact Below.refl _ _ | exact pw_below_drewN (Below.refl _ _) _⟩⟩
  case round =>
    obtain ⟨x, HX, rfl, HN, HB⟩ := hrel
    by_cases hlt : x < l0.length
    · have hdl : decide (x < l0.length) = true := decide_eq_true hlt
      have HLT := Aside0.mk hlt
      obtain ⟨ad, hA, hx0, hx1, hx2, hx3⟩ := at_T45 HR.out (x : Int) (by omega) (by omega)
      subst hA
      have hy0 := (HB.out.cell (World.block_lt_of_cell? w _ hx0)).trans hx0
      have hy1 := (HB.out.cell (World.block_lt_of_cell? w _ hx1)).trans hx1
      have hy2 := (HB.out.cell (World.block_lt_of_cell? w _ hx2)).trans hx2
      have hy3 := (HB.out.cell (World.block_lt_of_cell? w _ hx3)).trans hx3
      simp only [Int.toNat_natCast] at hy0 hy1 hy2 hy3
      clear hx0 hx1 hx2 hx3
      have hw : wrap64 ((x : Int) + 1) = (x : Int) + 1 := by have := HM.out; have := HX.out; unfold wrap64; omega
      cases hz : p (rd_T45 l0 (x : Int)) with
      | true =>
        have HY := Aside0.mk (show decide ((0 : Int) ≤ (x : Int)) = l0.any p by
          rw [decide_eq_true (by omega), eq_comm, List.any_eq_true]
          exact ⟨l0[x], List.getElem_mem hlt, by rw [← rdH hlt]; exact hz⟩)
        have HZ := Aside0.mk hz
        clear hz
        generalize rd_T45 l0 (x : Int) = y at hy0 hy1 hy2 hy3 HZ
        go_wp2_with (fail)
        refine (HP.out y _ HB.out).mono ?_
        rw [HZ.out]
        rintro e w2 ⟨rfl, hb⟩
        have HB2 := Aside0.mk (below_step HB.out hb)
        clear hb
        go_wp2_with (fail)
        go_ret
        exact ⟨x, rfl, HY.out, HB2.out⟩
      | false =>
        have HN2 := Aside0.mk (show ∀ j : Nat, j < x + 1 → p (rd_T45 l0 (j : Int)) = false by
          intro j hj
          by_cases hjk : j = x
          · rw [hjk]; exact hz
          · exact HN.out j (by omega))
        have HZ := Aside0.mk hz
        clear hz
        generalize rd_T45 l0 (x : Int) = y at hy0 hy1 hy2 hy3 HZ
        go_wp2_with (fail)
        refine (HP.out y _ HB.out).mono ?_
        rw [HZ.out]
        rintro e w2 ⟨rfl, hb⟩
        have HB2 := Aside0.mk (below_step HB.out hb)
        clear hb
        go_wp2_with (fail)
        go_roundw
        case rel => exact ⟨x + 1, ⟨HLT.out⟩, congrArg (Value.int .i64) (by omega), HN2, HB2⟩
        case measure =>
          have := HLT.out
          rw [hw]
          show l0.length - ((x : Int) + 1).toNat < l0.length - (x : Int).toNat
          omega
    · have hdl : decide (x < l0.length) = false := decide_eq_false hlt
      have HY := Aside0.mk (show decide ((0 : Int) ≤ -1) = l0.any p by
        rw [eq_comm, show decide ((0 : Int) ≤ -1) = false by decide, List.any_eq_false]
        intro y hy
        obtain ⟨j, hj, rfl⟩ := List.getElem_of_mem hy
        have := HN.out j (by omega)
        rw [rdH hj] at this
        simp [this])
      clear hlt
      go_wp2_with (fail)
      go_ret
      exact ⟨-1, rfl, HY.out, HB.out⟩
set_option maxHeartbeats 8000000 in
set_option maxRecDepth 100000 in
theorem hasH73 (v1 : Value) (p : S45 → Bool) (A0 : Option Addr) (c0 : Nat) (l0 : List S45) (w : World) (hr0 : Kd.C k45 w A0 l0.length l0) (hc0 : l0.length ≤ c0)
    (hp : ∀ (x : S45) (W : World), Below w.heap.size w W → Calls Try.prog 73 #[.agg #[.int .i64 x.f0, .int .i64 x.f1, .bool x.f2, .bool x.f3], v1] W fun e w' => e = .returned (.bool (p x)) ∧ Below W.heap.size W w') :
    Calls Try.prog 44 #[.slice A0 l0.length c0, .func (.func 73) #[] #[v1]] w fun e w' => e = .returned (.bool (l0.any p)) ∧ Below w.heap.size w w' := by
  have HR := Aside0.mk hr0
  have HC := Aside0.mk hc0
  have HP := Aside0.mk hp
  clear hr0 hc0 hp
  go_enter Try.func44, Try.ntmps44
  go_wp2_with (fail)
  refine (idxH73 v1 p A0 c0 l0 _ HR.out HC.out HP.out).mono ?_
  rintro e w1 ⟨i, rfl, hi, hb⟩
  have HB := Aside0.mk hb
  have HI := Aside0.mk hi
  clear hi hb
  go_wp2_with (fail)
  go_ret
  exact ⟨by rw [← HI.out]; rfl, HB.out⟩
set_option maxHeartbeats 8000000 in
set_option maxRecDepth 100000 in
theorem split62 (z0 : Value) (p : S45 → Bool) (A0 : Option Addr) (c0 : Nat) (l0 : List S45) (w : World) (hr0 : Kd.C k45 w A0 l0.length l0) (hc0 : l0.length ≤ c0) (hl0 : l0.length ≤ 1048576)
    (hp : ∀ (x : S45) (W : World), Below w.heap.size w W → Calls Try.prog 62 #[.agg #[.int .i64 x.f0, .int .i64 x.f1, .bool x.f2, .bool x.f3], z0] W fun e w' => e = .returned (.bool (p x)) ∧ Below W.heap.size W w') :
    Calls Try.prog 55 #[.slice A0 l0.length c0, .func (.func 62) #[] #[z0]] w fun e w' => ∃ va vb : Value, e = .returned (.tuple #[va, vb]) ∧ Kd.R k45 45 w' w.heap.size (fun k => True ∧ some k ≠ vb.ownBlock) va (l0.filter p) ∧ Kd.R k45 45 w' w.heap.size (fun k => True ∧ some k ≠ va.ownBlock) vb (l0.filter (fun x => !p x)) ∧ Below w.heap.size w w' := by
  have hu := Try.underlying45
  have HR := Aside0.mk hr0
  have HC := Aside0.mk hc0
  have HP := Aside0.mk hp
  have HL := Aside0.mk hl0
  clear hr0 hc0 hp hl0
  go_enter Try.func55, Try.ntmps55
  go_wp2_with (fail)
  go_loopw [4, 5, 10] (fun v4 v5 i wr => ∃ x : Nat, i = .int .i64 (x : Int) ∧ Aside0 (x ≤ l0.length) ∧ Aside0 (Kd.R k45 45 wr w.heap.size (fun k => True ∧ some k ≠ (v5 : Value).ownBlock) v4 ((l0.take x).filter p)) ∧ Aside0 (Kd.R k45 45 wr w.heap.size (fun k => True ∧ some k ≠ (v4 : Value).ownBlock) v5 ((l0.take x).filter (fun x => !p x))) ∧ Aside0 (Below w.heap.size w wr)) (fun _ _ i _ => l0.length - (intOf i).toNat)
  case atStart => exact ⟨0, rfl, ⟨by omega⟩, ⟨Kd.R_nil _ _ _ _ _⟩, ⟨Kd.R_nil _ _ _ _ _⟩, ⟨by first | exact Below.refl _ _ | exact pw_below_drewN (Below.refl _ _) _⟩⟩
  case round =>
    obtain ⟨x, rfl, HX, RA, RB, HB⟩ := hrel
    by_cases hlt : x < l0.length
    · have hdl : decide (x < l0.length) = true := decide_eq_true hlt
      obtain ⟨ad, hA, hx0, hx1, hx2, hx3⟩ := at_T45 HR.out (x : Int) (by omega) (by omega)
      subst hA
      have hy0 := (HB.out.cell (World.block_lt_of_cell? w _ hx0)).trans hx0
      have hy1 := (HB.out.cell (World.block_lt_of_cell? w _ hx1)).trans hx1
      have hy2 := (HB.out.cell (World.block_lt_of_cell? w _ hx2)).trans hx2
      have hy3 := (HB.out.cell (World.block_lt_of_cell? w _ hx3)).trans hx3
      simp only [Int.toNat_natCast] at hy0 hy1 hy2 hy3
      clear hx0 hx1 hx2 hx3
      have hw : wrap64 ((x : Int) + 1) = (x : Int) + 1 := by have := HL.out; unfold wrap64; omega
      have hl9 : l0.length ≤ 1048576 := HL.out
      cases hz : p (rd_T45 l0 (x : Int)) with
      | true =>
        have HZ := Aside0.mk hz
        have hf1 := Aside0.mk (show (l0.take (x + 1)).filter p = (l0.take x).filter p ++ [rd_T45 l0 (x : Int)] by rw [List.take_succ_eq_append_getElem hlt, List.filter_append, ← rdH hlt]; congr 1; simp [List.filter, hz])
        have hf2 := Aside0.mk (show (l0.take (x + 1)).filter (fun x => !p x) = (l0.take x).filter (fun x => !p x) ++ [] by rw [List.take_succ_eq_append_getElem hlt, List.filter_append, ← rdH hlt]; congr 1; simp [List.filter, hz])
        have HLN := Aside0.mk (show ((l0.take x).filter p).length ≤ 1048576 ∧ ((l0.take x).filter (fun x => !p x)).length ≤ 1048576 from ⟨Nat.le_trans (List.length_filter_le _ _) (by rw [List.length_take]; omega), Nat.le_trans (List.length_filter_le _ _) (by rw [List.length_take]; omega)⟩)
        clear hz
        generalize rd_T45 l0 (x : Int) = y at hy0 hy1 hy2 hy3 HZ hf1 hf2
        go_wp2_with (fail)
        refine (HP.out y _ (below_alloc HB.out _)).mono ?_
        rw [HZ.out]
        rintro e w5 ⟨rfl, hb⟩
        have HB5 := Aside0.mk (below_step (below_alloc HB.out _) hb)
        have RA5 := Aside0.mk (Kd.R_below (Kd.R_alloc RA.out _) hb)
        have RB5 := Aside0.mk (Kd.R_below (Kd.R_alloc RB.out _) hb)
        have hq0 : w5.cell? ⟨wr.heap.size, 0, none⟩ = some (.int .i64 y.f0) := newcell hb rfl
        have hq1 : w5.cell? ⟨wr.heap.size, 1, none⟩ = some (.int .i64 y.f1) := newcell hb rfl
        have hq2 : w5.cell? ⟨wr.heap.size, 2, none⟩ = some (.bool y.f2) := newcell hb rfl
        have hq3 : w5.cell? ⟨wr.heap.size, 3, none⟩ = some (.bool y.f3) := newcell hb rfl
        clear hb
        go_wp2_with (at_builtin; (refine Kd.R_append k45 (w0 := w) w.heap.size rfl (.tmp 17) (.tmp 19) 27 45 (.agg #[.int .i64 0, .int .i64 0, .bool false, .bool false]) 24 rfl Try.underlying27 info45 rfl (by decide) (by omega) u4 ((l0.take x).filter p) y [.int .i64 y.f0, .int .i64 y.f1, .bool y.f2, .bool y.f3] (fun k => True ∧ some k ≠ (u5 : Value).ownBlock) (fun _ => False) rfl rfl ?aP (fun _ hk => hk.elim) ?aF ?aO ?aB ?aS ?aL ?_; (case aP => exact k45_mkM _ _ _ y); (case aF => exact fun k hk => ⟨trivial, Kd.fresh' (Kd.R_lt RB5.out) k hk⟩); (case aO => exact RA5.out); (case aB => exact HB5.out); (case aS => exact HB5.out.size); (case aL => have := HLN.out; omega); intro v1 w7 ho hb7 hg hat; have HO7 := Aside0.mk ho; have HP7 := Aside0.mk (Kd.R_after (ok := fun _ => True) RB5.out hg hat); have HB7 := Aside0.mk hb7; clear ho hb7 hg hat))
        go_roundw
        case rel => exact ⟨x + 1, congrArg (Value.int .i64) (by omega), ⟨hlt⟩, ⟨by rw [hf1.out]; exact HO7.out⟩, ⟨by rw [hf2.out, List.append_nil]; exact HP7.out⟩, HB7⟩
        case measure =>
          (try rw [hw])
          show l0.length - ((x : Int) + 1).toNat < l0.length - (x : Int).toNat
          omega
      | false =>
        have HZ := Aside0.mk hz
        have hf1 := Aside0.mk (show (l0.take (x + 1)).filter p = (l0.take x).filter p ++ [] by rw [List.take_succ_eq_append_getElem hlt, List.filter_append, ← rdH hlt]; congr 1; simp [List.filter, hz])
        have hf2 := Aside0.mk (show (l0.take (x + 1)).filter (fun x => !p x) = (l0.take x).filter (fun x => !p x) ++ [rd_T45 l0 (x : Int)] by rw [List.take_succ_eq_append_getElem hlt, List.filter_append, ← rdH hlt]; congr 1; simp [List.filter, hz])
        have HLN := Aside0.mk (show ((l0.take x).filter p).length ≤ 1048576 ∧ ((l0.take x).filter (fun x => !p x)).length ≤ 1048576 from ⟨Nat.le_trans (List.length_filter_le _ _) (by rw [List.length_take]; omega), Nat.le_trans (List.length_filter_le _ _) (by rw [List.length_take]; omega)⟩)
        clear hz
        generalize rd_T45 l0 (x : Int) = y at hy0 hy1 hy2 hy3 HZ hf1 hf2
        go_wp2_with (fail)
        refine (HP.out y _ (below_alloc HB.out _)).mono ?_
        rw [HZ.out]
        rintro e w5 ⟨rfl, hb⟩
        have HB5 := Aside0.mk (below_step (below_alloc HB.out _) hb)
        have RA5 := Aside0.mk (Kd.R_below (Kd.R_alloc RA.out _) hb)
        have RB5 := Aside0.mk (Kd.R_below (Kd.R_alloc RB.out _) hb)
        have hq0 : w5.cell? ⟨wr.heap.size, 0, none⟩ = some (.int .i64 y.f0) := newcell hb rfl
        have hq1 : w5.cell? ⟨wr.heap.size, 1, none⟩ = some (.int .i64 y.f1) := newcell hb rfl
        have hq2 : w5.cell? ⟨wr.heap.size, 2, none⟩ = some (.bool y.f2) := newcell hb rfl
        have hq3 : w5.cell? ⟨wr.heap.size, 3, none⟩ = some (.bool y.f3) := newcell hb rfl
        clear hb
        go_wp2_with (at_builtin; (refine Kd.R_append k45 (w0 := w) w.heap.size rfl (.tmp 21) (.tmp 23) 27 45 (.agg #[.int .i64 0, .int .i64 0, .bool false, .bool false]) 24 rfl Try.underlying27 info45 rfl (by decide) (by omega) u5 ((l0.take x).filter (fun x => !p x)) y [.int .i64 y.f0, .int .i64 y.f1, .bool y.f2, .bool y.f3] (fun k => True ∧ some k ≠ (u4 : Value).ownBlock) (fun _ => False) rfl rfl ?aP (fun _ hk => hk.elim) ?aF ?aO ?aB ?aS ?aL ?_; (case aP => exact k45_mkM _ _ _ y); (case aF => exact fun k hk => ⟨trivial, Kd.fresh' (Kd.R_lt RA5.out) k hk⟩); (case aO => exact RB5.out); (case aB => exact HB5.out); (case aS => exact HB5.out.size); (case aL => have := HLN.out; omega); intro v1 w7 ho hb7 hg hat; have HO7 := Aside0.mk ho; have HP7 := Aside0.mk (Kd.R_after (ok := fun _ => True) RA5.out hg hat); have HB7 := Aside0.mk hb7; clear ho hb7 hg hat))
        go_roundw
        case rel => exact ⟨x + 1, congrArg (Value.int .i64) (by omega), ⟨hlt⟩, ⟨by rw [hf1.out, List.append_nil]; exact HP7.out⟩, ⟨by rw [hf2.out]; exact HO7.out⟩, HB7⟩
        case measure =>
          (try rw [hw])
          show l0.length - ((x : Int) + 1).toNat < l0.length - (x : Int).toNat
          omega
    · obtain rfl : x = l0.length := by have := HX.out; omega
      have hdl : decide (l0.length < l0.length) = false := decide_eq_false hlt
      clear hlt
      rw [List.take_length] at RA RB
      go_wp2_with (fail)
      go_ret2
      exact ⟨_, _, rfl, RA.out, RB.out, HB.out⟩
set_option maxHeartbeats 8000000 in
set_option maxRecDepth 100000 in
theorem split63 (z0 : Value) (p : S45 → Bool) (A0 : Option Addr) (c0 : Nat) (l0 : List S45) (w : World) (hr0 : Kd.C k45 w A0 l0.length l0) (hc0 : l0.length ≤ c0) (hl0 : l0.length ≤ 1048576)
    (hp : ∀ (x : S45) (W : World), Below w.heap.size w W → Calls Try.prog 63 #[.agg #[.int .i64 x.f0, .int .i64 x.f1, .bool x.f2, .bool x.f3], z0] W fun e w' => e = .returned (.bool (p x)) ∧ Below W.heap.size W w') :
    Calls Try.prog 55 #[.slice A0 l0.length c0, .func (.func 63) #[] #[z0]] w fun e w' => ∃ va vb : Value, e = .returned (.tuple #[va, vb]) ∧ Kd.R k45 45 w' w.heap.size (fun k => True ∧ some k ≠ vb.ownBlock) va (l0.filter p) ∧ Kd.R k45 45 w' w.heap.size (fun k => True ∧ some k ≠ va.ownBlock) vb (l0.filter (fun x => !p x)) ∧ Below w.heap.size w w' := by
  have hu := Try.underlying45
  have HR := Aside0.mk hr0
  have HC := Aside0.mk hc0
  have HP := Aside0.mk hp
  have HL := Aside0.mk hl0
  clear hr0 hc0 hp hl0
  go_enter Try.func55, Try.ntmps55
  go_wp2_with (fail)
  go_loopw [4, 5, 10] (fun v4 v5 i wr => ∃ x : Nat, i = .int .i64 (x : Int) ∧ Aside0 (x ≤ l0.length) ∧ Aside0 (Kd.R k45 45 wr w.heap.size (fun k => True ∧ some k ≠ (v5 : Value).ownBlock) v4 ((l0.take x).filter p)) ∧ Aside0 (Kd.R k45 45 wr w.heap.size (fun k => True ∧ some k ≠ (v4 : Value).ownBlock) v5 ((l0.take x).filter (fun x => !p x))) ∧ Aside0 (Below w.heap.size w wr)) (fun _ _ i _ => l0.length - (intOf i).toNat)
  case atStart => exact ⟨0, rfl, ⟨by omega⟩, ⟨Kd.R_nil _ _ _ _ _⟩, ⟨Kd.R_nil _ _ _ _ _⟩, ⟨by first | exact Below.refl _ _ | exact pw_below_drewN (Below.refl _ _) _⟩⟩
  case round =>
    obtain ⟨x, rfl, HX, RA, RB, HB⟩ := hrel
    by_cases hlt : x < l0.length
    · have hdl : decide (x < l0.length) = true := decide_eq_true hlt
      obtain ⟨ad, hA, hx0, hx1, hx2, hx3⟩ := at_T45 HR.out (x : Int) (by omega) (by omega)
      subst hA
      have hy0 := (HB.out.cell (World.block_lt_of_cell? w _ hx0)).trans hx0
      have hy1 := (HB.out.cell (World.block_lt_of_cell? w _ hx1)).trans hx1
      have hy2 := (HB.out.cell (World.block_lt_of_cell? w _ hx2)).trans hx2
      have hy3 := (HB.out.cell (World.block_lt_of_cell? w _ hx3)).trans hx3
      simp only [Int.toNat_natCast] at hy0 hy1 hy2 hy3
      clear hx0 hx1 hx2 hx3
      have hw : wrap64 ((x : Int) + 1) = (x : Int) + 1 := by have := HL.out; unfold wrap64; omega
      have hl9 : l0.length ≤ 1048576 := HL.out
      cases hz : p (rd_T45 l0 (x : Int)) with
      | true =>
        have HZ := Aside0.mk hz
        have hf1 := Aside0.mk (show (l0.take (x + 1)).filter p = (l0.take x).filter p ++ [rd_T45 l0 (x : Int)] by rw [List.take_succ_eq_append_getElem hlt, List.filter_append, ← rdH hlt]; congr 1; simp [List.filter, hz])
        have hf2 := Aside0.mk (show (l0.take (x + 1)).filter (fun x => !p x) = (l0.take x).filter (fun x => !p x) ++ [] by rw [List.take_succ_eq_append_getElem hlt, List.filter_append, ← rdH hlt]; congr 1; simp [List.filter, hz])
        have HLN := Aside0.mk (show ((l0.take x).filter p).length ≤ 1048576 ∧ ((l0.take x).filter (fun x => !p x)).length ≤ 1048576 from ⟨Nat.le_trans (List.length_filter_le _ _) (by rw [List.length_take]; omega), Nat.le_trans (List.length_filter_le _ _) (by rw [List.length_take]; omega)⟩)
        clear hz
        generalize rd_T45 l0 (x : Int) = y at hy0 hy1 hy2 hy3 HZ hf1 hf2
        go_wp2_with (fail)
        refine (HP.out y _ (below_alloc HB.out _)).mono ?_
        rw [HZ.out]
        rintro e w5 ⟨rfl, hb⟩
        have HB5 := Aside0.mk (below_step (below_alloc HB.out _) hb)
        have RA5 := Aside0.mk (Kd.R_below (Kd.R_alloc RA.out _) hb)
        have RB5 := Aside0.mk (Kd.R_below (Kd.R_alloc RB.out _) hb)
        have hq0 : w5.cell? ⟨wr.heap.size, 0, none⟩ = some (.int .i64 y.f0) := newcell hb rfl
        have hq1 : w5.cell? ⟨wr.heap.size, 1, none⟩ = some (.int .i64 y.f1) := newcell hb rfl
        have hq2 : w5.cell? ⟨wr.heap.size, 2, none⟩ = some (.bool y.f2) := newcell hb rfl
        have hq3 : w5.cell? ⟨wr.heap.size, 3, none⟩ = some (.bool y.f3) := newcell hb rfl
        clear hb
        go_wp2_with (at_builtin; (refine Kd.R_append k45 (w0 := w) w.heap.size rfl (.tmp 17) (.tmp 19) 27 45 (.agg #[.int .i64 0, .int .i64 0, .bool false, .bool false]) 24 rfl Try.underlying27 info45 rfl (by decide) (by omega) u4 ((l0.take x).filter p) y [.int .i64 y.f0, .int .i64 y.f1, .bool y.f2, .bool y.f3] (fun k => True ∧ some k ≠ (u5 : Value).ownBlock) (fun _ => False) rfl rfl ?aP (fun _ hk => hk.elim) ?aF ?aO ?aB ?aS ?aL ?_; (case aP => exact k45_mkM _ _ _ y); (case aF => exact fun k hk => ⟨trivial, Kd.fresh' (Kd.R_lt RB5.out) k hk⟩); (case aO => exact RA5.out); (case aB => exact HB5.out); (case aS => exact HB5.out.size); (case aL => have := HLN.out; omega); intro v1 w7 ho hb7 hg hat; have HO7 := Aside0.mk ho; have HP7 := Aside0.mk (Kd.R_after (ok := fun _ => True) RB5.out hg hat); have HB7 := Aside0.mk hb7; clear ho hb7 hg hat))
        go_roundw
        case rel => exact ⟨x + 1, congrArg (Value.int .i64) (by omega), ⟨hlt⟩, ⟨by rw [hf1.out]; exact HO7.out⟩, ⟨by rw [hf2.out, List.append_nil]; exact HP7.out⟩, HB7⟩
        case measure =>
          (try rw [hw])
          show l0.length - ((x : Int) + 1).toNat < l0.length - (x : Int).toNat
          omega
      | false =>
        have HZ := Aside0.mk hz
        have hf1 := Aside0.mk (show (l0.take (x + 1)).filter p = (l0.take x).filter p ++ [] by rw [List.take_succ_eq_append_getElem hlt, List.filter_append, ← rdH hlt]; congr 1; simp [List.filter, hz])
        have hf2 := Aside0.mk (show (l0.take (x + 1)).filter (fun x => !p x) = (l0.take x).filter (fun x => !p x) ++ [rd_T45 l0 (x : Int)] by rw [List.take_succ_eq_append_getElem hlt, List.filter_append, ← rdH hlt]; congr 1; simp [List.filter, hz])
        have HLN := Aside0.mk (show ((l0.take x).filter p).length ≤ 1048576 ∧ ((l0.take x).filter (fun x => !p x)).length ≤ 1048576 from ⟨Nat.le_trans (List.length_filter_le _ _) (by rw [List.length_take]; omega), Nat.le_trans (List.length_filter_le _ _) (by rw [List.length_take]; omega)⟩)
        clear hz
        generalize rd_T45 l0 (x : Int) = y at hy0 hy1 hy2 hy3 HZ hf1 hf2
        go_wp2_with (fail)
        refine (HP.out y _ (below_alloc HB.out _)).mono ?_
        rw [HZ.out]
        rintro e w5 ⟨rfl, hb⟩
        have HB5 := Aside0.mk (below_step (below_alloc HB.out _) hb)
        have RA5 := Aside0.mk (Kd.R_below (Kd.R_alloc RA.out _) hb)
        have RB5 := Aside0.mk (Kd.R_below (Kd.R_alloc RB.out _) hb)
        have hq0 : w5.cell? ⟨wr.heap.size, 0, none⟩ = some (.int .i64 y.f0) := newcell hb rfl
        have hq1 : w5.cell? ⟨wr.heap.size, 1, none⟩ = some (.int .i64 y.f1) := newcell hb rfl
        have hq2 : w5.cell? ⟨wr.heap.size, 2, none⟩ = some (.bool y.f2) := newcell hb rfl
        have hq3 : w5.cell? ⟨wr.heap.size, 3, none⟩ = some (.bool y.f3) := newcell hb rfl
        clear hb
        go_wp2_with (at_builtin; (refine Kd.R_append k45 (w0 := w) w.heap.size rfl (.tmp 21) (.tmp 23) 27 45 (.agg #[.int .i64 0, .int .i64 0, .bool false, .bool false]) 24 rfl Try.underlying27 info45 rfl (by decide) (by omega) u5 ((l0.take x).filter (fun x => !p x)) y [.int .i64 y.f0, .int .i64 y.f1, .bool y.f2, .bool y.f3] (fun k => True ∧ some k ≠ (u4 : Value).ownBlock) (fun _ => False) rfl rfl ?aP (fun _ hk => hk.elim) ?aF ?aO ?aB ?aS ?aL ?_; (case aP => exact k45_mkM _ _ _ y); (case aF => exact fun k hk => ⟨trivial, Kd.fresh' (Kd.R_lt RA5.out) k hk⟩); (case aO => exact RB5.out); (case aB => exact HB5.out); (case aS => exact HB5.out.size); (case aL => have := HLN.out; omega); intro v1 w7 ho hb7 hg hat; have HO7 := Aside0.mk ho; have HP7 := Aside0.mk (Kd.R_after (ok := fun _ => True) RA5.out hg hat); have HB7 := Aside0.mk hb7; clear ho hb7 hg hat))
        go_roundw
        case rel => exact ⟨x + 1, congrArg (Value.int .i64) (by omega), ⟨hlt⟩, ⟨by rw [hf1.out, List.append_nil]; exact HP7.out⟩, ⟨by rw [hf2.out]; exact HO7.out⟩, HB7⟩
        case measure =>
          (try rw [hw])
          show l0.length - ((x : Int) + 1).toNat < l0.length - (x : Int).toNat
          omega
    · obtain rfl : x = l0.length := by have := HX.out; omega
      have hdl : decide (l0.length < l0.length) = false := decide_eq_false hlt
      clear hlt
      rw [List.take_length] at RA RB
      go_wp2_with (fail)
      go_ret2
      exact ⟨_, _, rfl, RA.out, RB.out, HB.out⟩
set_option maxHeartbeats 8000000 in
set_option maxRecDepth 100000 in
theorem split54 (z0 z1 : Value) (p : S45 → Bool) (A0 : Option Addr) (c0 : Nat) (l0 : List S45) (w : World) (hr0 : Kd.C k45 w A0 l0.length l0) (hc0 : l0.length ≤ c0) (hl0 : l0.length ≤ 1048576)
    (hp : ∀ (x : S45) (W : World), Below w.heap.size w W → Calls Try.prog 54 #[.agg #[.int .i64 x.f0, .int .i64 x.f1, .bool x.f2, .bool x.f3], z0, z1] W fun e w' => e = .returned (.bool (p x)) ∧ Below W.heap.size W w') :
    Calls Try.prog 55 #[.slice A0 l0.length c0, .func (.func 54) #[] #[z0, z1]] w fun e w' => ∃ va vb : Value, e = .returned (.tuple #[va, vb]) ∧ Kd.R k45 45 w' w.heap.size (fun k => True ∧ some k ≠ vb.ownBlock) va (l0.filter p) ∧ Kd.R k45 45 w' w.heap.size (fun k => True ∧ some k ≠ va.ownBlock) vb (l0.filter (fun x => !p x)) ∧ Below w.heap.size w w' := by
  have hu := Try.underlying45
  have HR := Aside0.mk hr0
  have HC := Aside0.mk hc0
  have HP := Aside0.mk hp
  have HL := Aside0.mk hl0
  clear hr0 hc0 hp hl0
  go_enter Try.func55, Try.ntmps55
  go_wp2_with (fail)
  go_loopw [4, 5, 10] (fun v4 v5 i wr => ∃ x : Nat, i = .int .i64 (x : Int) ∧ Aside0 (x ≤ l0.length) ∧ Aside0 (Kd.R k45 45 wr w.heap.size (fun k => True ∧ some k ≠ (v5 : Value).ownBlock) v4 ((l0.take x).filter p)) ∧ Aside0 (Kd.R k45 45 wr w.heap.size (fun k => True ∧ some k ≠ (v4 : Value).ownBlock) v5 ((l0.take x).filter (fun x => !p x))) ∧ Aside0 (Below w.heap.size w wr)) (fun _ _ i _ => l0.length - (intOf i).toNat)
  case atStart => exact ⟨0, rfl, ⟨by omega⟩, ⟨Kd.R_nil _ _ _ _ _⟩, ⟨Kd.R_nil _ _ _ _ _⟩, ⟨by first | exact Below.refl _ _ | exact pw_below_drewN (Below.refl _ _) _⟩⟩
  case round =>
    obtain ⟨x, rfl, HX, RA, RB, HB⟩ := hrel
    by_cases hlt : x < l0.length
    · have hdl : decide (x < l0.length) = true := decide_eq_true hlt
      obtain ⟨ad, hA, hx0, hx1, hx2, hx3⟩ := at_T45 HR.out (x : Int) (by omega) (by omega)
      subst hA
      have hy0 := (HB.out.cell (World.block_lt_of_cell? w _ hx0)).trans hx0
      have hy1 := (HB.out.cell (World.block_lt_of_cell? w _ hx1)).trans hx1
      have hy2 := (HB.out.cell (World.block_lt_of_cell? w _ hx2)).trans hx2
      have hy3 := (HB.out.cell (World.block_lt_of_cell? w _ hx3)).trans hx3
      simp only [Int.toNat_natCast] at hy0 hy1 hy2 hy3
      clear hx0 hx1 hx2 hx3
      have hw : wrap64 ((x : Int) + 1) = (x : Int) + 1 := by have := HL.out; unfold wrap64; omega
      have hl9 : l0.length ≤ 1048576 := HL.out
      cases hz : p (rd_T45 l0 (x : Int)) with
      | true =>
        have HZ := Aside0.mk hz
        have hf1 := Aside0.mk (show (l0.take (x + 1)).filter p = (l0.take x).filter p ++ [rd_T45 l0 (x : Int)] by rw [List.take_succ_eq_append_getElem hlt, List.filter_append, ← rdH hlt]; congr 1; simp [List.filter, hz])
        have hf2 := Aside0.mk (show (l0.take (x + 1)).filter (fun x => !p x) = (l0.take x).filter (fun x => !p x) ++ [] by rw [List.take_succ_eq_append_getElem hlt, List.filter_append, ← rdH hlt]; congr 1; simp [List.filter, hz])
        have HLN := Aside0.mk (show ((l0.take x).filter p).length ≤ 1048576 ∧ ((l0.take x).filter (fun x => !p x)).length ≤ 1048576 from ⟨Nat.le_trans (List.length_filter_le _ _) (by rw [List.length_take]; omega), Nat.le_trans (List.length_filter_le _ _) (by rw [List.length_take]; omega)⟩)
        clear hz
        generalize rd_T45 l0 (x : Int) = y at hy0 hy1 hy2 hy3 HZ hf1 hf2
        go_wp2_with (fail)
        refine (HP.out y _ (below_alloc HB.out _)).mono ?_
        rw [HZ.out]
        rintro e w5 ⟨rfl, hb⟩
        have HB5 := Aside0.mk (below_step (below_alloc HB.out _) hb)
        have RA5 := Aside0.mk (Kd.R_below (Kd.R_alloc RA.out _) hb)
        have RB5 := Aside0.mk (Kd.R_below (Kd.R_alloc RB.out _) hb)
        have hq0 : w5.cell? ⟨wr.heap.size, 0, none⟩ = some (.int .i64 y.f0) := newcell hb rfl
        have hq1 : w5.cell? ⟨wr.heap.size, 1, none⟩ = some (.int .i64 y.f1) := newcell hb rfl
        have hq2 : w5.cell? ⟨wr.heap.size, 2, none⟩ = some (.bool y.f2) := newcell hb rfl
        have hq3 : w5.cell? ⟨wr.heap.size, 3, none⟩ = some (.bool y.f3) := newcell hb rfl
        clear hb
        go_wp2_with (at_builtin; (refine Kd.R_append k45 (w0 := w) w.heap.size rfl (.tmp 17) (.tmp 19) 27 45 (.agg #[.int .i64 0, .int .i64 0, .bool false, .bool false]) 24 rfl Try.underlying27 info45 rfl (by decide) (by omega) u4 ((l0.take x).filter p) y [.int .i64 y.f0, .int .i64 y.f1, .bool y.f2, .bool y.f3] (fun k => True ∧ some k ≠ (u5 : Value).ownBlock) (fun _ => False) rfl rfl ?aP (fun _ hk => hk.elim) ?aF ?aO ?aB ?aS ?aL ?_; (case aP => exact k45_mkM _ _ _ y); (case aF => exact fun k hk => ⟨trivial, Kd.fresh' (Kd.R_lt RB5.out) k hk⟩); (case aO => exact RA5.out); (case aB => exact HB5.out); (case aS => exact HB5.out.size); (case aL => have := HLN.out; omega); intro v1 w7 ho hb7 hg hat; have HO7 := Aside0.mk ho; have HP7 := Aside0.mk (Kd.R_after (ok := fun _ => True) RB5.out hg hat); have HB7 := Aside0.mk hb7; clear ho hb7 hg hat))
        go_roundw
        case rel => exact ⟨x + 1, congrArg (Value.int .i64) (by omega), ⟨hlt⟩, ⟨by rw [hf1.out]; exact HO7.out⟩, ⟨by rw [hf2.out, List.append_nil]; exact HP7.out⟩, HB7⟩
        case measure =>
          (try rw [hw])
          show l0.length - ((x : Int) + 1).toNat < l0.length - (x : Int).toNat
          omega
      | false =>
        have HZ := Aside0.mk hz
        have hf1 := Aside0.mk (show (l0.take (x + 1)).filter p = (l0.take x).filter p ++ [] by rw [List.take_succ_eq_append_getElem hlt, List.filter_append, ← rdH hlt]; congr 1; simp [List.filter, hz])
        have hf2 := Aside0.mk (show (l0.take (x + 1)).filter (fun x => !p x) = (l0.take x).filter (fun x => !p x) ++ [rd_T45 l0 (x : Int)] by rw [List.take_succ_eq_append_getElem hlt, List.filter_append, ← rdH hlt]; congr 1; simp [List.filter, hz])
        have HLN := Aside0.mk (show ((l0.take x).filter p).length ≤ 1048576 ∧ ((l0.take x).filter (fun x => !p x)).length ≤ 1048576 from ⟨Nat.le_trans (List.length_filter_le _ _) (by rw [List.length_take]; omega), Nat.le_trans (List.length_filter_le _ _) (by rw [List.length_take]; omega)⟩)
        clear hz
        generalize rd_T45 l0 (x : Int) = y at hy0 hy1 hy2 hy3 HZ hf1 hf2
        go_wp2_with (fail)
        refine (HP.out y _ (below_alloc HB.out _)).mono ?_
        rw [HZ.out]
        rintro e w5 ⟨rfl, hb⟩
        have HB5 := Aside0.mk (below_step (below_alloc HB.out _) hb)
        have RA5 := Aside0.mk (Kd.R_below (Kd.R_alloc RA.out _) hb)
        have RB5 := Aside0.mk (Kd.R_below (Kd.R_alloc RB.out _) hb)
        have hq0 : w5.cell? ⟨wr.heap.size, 0, none⟩ = some (.int .i64 y.f0) := newcell hb rfl
        have hq1 : w5.cell? ⟨wr.heap.size, 1, none⟩ = some (.int .i64 y.f1) := newcell hb rfl
        have hq2 : w5.cell? ⟨wr.heap.size, 2, none⟩ = some (.bool y.f2) := newcell hb rfl
        have hq3 : w5.cell? ⟨wr.heap.size, 3, none⟩ = some (.bool y.f3) := newcell hb rfl
        clear hb
        go_wp2_with (at_builtin; (refine Kd.R_append k45 (w0 := w) w.heap.size rfl (.tmp 21) (.tmp 23) 27 45 (.agg #[.int .i64 0, .int .i64 0, .bool false, .bool false]) 24 rfl Try.underlying27 info45 rfl (by decide) (by omega) u5 ((l0.take x).filter (fun x => !p x)) y [.int .i64 y.f0, .int .i64 y.f1, .bool y.f2, .bool y.f3] (fun k => True ∧ some k ≠ (u4 : Value).ownBlock) (fun _ => False) rfl rfl ?aP (fun _ hk => hk.elim) ?aF ?aO ?aB ?aS ?aL ?_; (case aP => exact k45_mkM _ _ _ y); (case aF => exact fun k hk => ⟨trivial, Kd.fresh' (Kd.R_lt RA5.out) k hk⟩); (case aO => exact RB5.out); (case aB => exact HB5.out); (case aS => exact HB5.out.size); (case aL => have := HLN.out; omega); intro v1 w7 ho hb7 hg hat; have HO7 := Aside0.mk ho; have HP7 := Aside0.mk (Kd.R_after (ok := fun _ => True) RA5.out hg hat); have HB7 := Aside0.mk hb7; clear ho hb7 hg hat))
        go_roundw
        case rel => exact ⟨x + 1, congrArg (Value.int .i64) (by omega), ⟨hlt⟩, ⟨by rw [hf1.out, List.append_nil]; exact HP7.out⟩, ⟨by rw [hf2.out]; exact HO7.out⟩, HB7⟩
        case measure =>
          (try rw [hw])
          show l0.length - ((x : Int) + 1).toNat < l0.length - (x : Int).toNat
          omega
    · obtain rfl : x = l0.length := by have := HX.out; omega
      have hdl : decide (l0.length < l0.length) = false := decide_eq_false hlt
      clear hlt
      rw [List.take_length] at RA RB
      go_wp2_with (fail)
      go_ret2
      exact ⟨_, _, rfl, RA.out, RB.out, HB.out⟩
set_option maxHeartbeats 8000000 in
set_option maxRecDepth 100000 in
theorem split58 (z0 : Value) (p : S45 → Bool) (A0 : Option Addr) (c0 : Nat) (l0 : List S45) (w : World) (hr0 : Kd.C k45 w A0 l0.length l0) (hc0 : l0.length ≤ c0) (hl0 : l0.length ≤ 1048576)
    (hp : ∀ (x : S45) (W : World), Below w.heap.size w W → Calls Try.prog 58 #[.agg #[.int .i64 x.f0, .int .i64 x.f1, .bool x.f2, .bool x.f3], z0] W fun e w' => e = .returned (.bool (p x)) ∧ Below W.heap.size W w') :
    Calls Try.prog 55 #[.slice A0 l0.length c0, .func (.func 58) #[] #[z0]] w fun e w' => ∃ va vb : Value, e = .returned (.tuple #[va, vb]) ∧ Kd.R k45 45 w' w.heap.size (fun k => True ∧ some k ≠ vb.ownBlock) va (l0.filter p) ∧ Kd.R k45 45 w' w.heap.size (fun k => True ∧ some k ≠ va.ownBlock) vb (l0.filter (fun x => !p x)) ∧ Below w.heap.size w w' := by
  have hu := Try.underlying45
  have HR := Aside0.mk hr0
  have HC := Aside0.mk hc0
  have HP := Aside0.mk hp
  have HL := Aside0.mk hl0
  clear hr0 hc0 hp hl0
  go_enter Try.func55, Try.ntmps55
  go_wp2_with (fail)
  go_loopw [4, 5, 10] (fun v4 v5 i wr => ∃ x : Nat, i = .int .i64 (x : Int) ∧ Aside0 (x ≤ l0.length) ∧ Aside0 (Kd.R k45 45 wr w.heap.size (fun k => True ∧ some k ≠ (v5 : Value).ownBlock) v4 ((l0.take x).filter p)) ∧ Aside0 (Kd.R k45 45 wr w.heap.size (fun k => True ∧ some k ≠ (v4 : Value).ownBlock) v5 ((l0.take x).filter (fun x => !p x))) ∧ Aside0 (Below w.heap.size w wr)) (fun _ _ i _ => l0.length - (intOf i).toNat)
  case atStart => exact ⟨0, rfl, ⟨by omega⟩, ⟨Kd.R_nil _ _ _ _ _⟩, ⟨Kd.R_nil _ _ _ _ _⟩, ⟨by first | exact Below.refl _ _ | exact pw_below_drewN (Below.refl _ _) _⟩⟩
  case round =>
    obtain ⟨x, rfl, HX, RA, RB, HB⟩ := hrel
    by_cases hlt : x < l0.length
    · have hdl : decide (x < l0.length) = true := decide_eq_true hlt
      obtain ⟨ad, hA, hx0, hx1, hx2, hx3⟩ := at_T45 HR.out (x : Int) (by omega) (by omega)
      subst hA
      have hy0 := (HB.out.cell (World.block_lt_of_cell? w _ hx0)).trans hx0
      have hy1 := (HB.out.cell (World.block_lt_of_cell? w _ hx1)).trans hx1
      have hy2 := (HB.out.cell (World.block_lt_of_cell? w _ hx2)).trans hx2
      have hy3 := (HB.out.cell (World.block_lt_of_cell? w _ hx3)).trans hx3
      simp only [Int.toNat_natCast] at hy0 hy1 hy2 hy3
      clear hx0 hx1 hx2 hx3
      have hw : wrap64 ((x : Int) + 1) = (x : Int) + 1 := by have := HL.out; unfold wrap64; omega
      have hl9 : l0.length ≤ 1048576 := HL.out
      cases hz : p (rd_T45 l0 (x : Int)) with
      | true =>
        have HZ := Aside0.mk hz
        have hf1 := Aside0.mk (show (l0.take (x + 1)).filter p = (l0.take x).filter p ++ [rd_T45 l0 (x : Int)] by rw [List.take_succ_eq_append_getElem hlt, List.filter_append, ← rdH hlt]; congr 1; simp [List.filter, hz])
        have hf2 := Aside0.mk (show (l0.take (x + 1)).filter (fun x => !p x) = (l0.take x).filter (fun x => !p x) ++ [] by rw [List.take_succ_eq_append_getElem hlt, List.filter_append, ← rdH hlt]; congr 1; simp [List.filter, hz])
        have HLN := Aside0.mk (show ((l0.take x).filter p).length ≤ 1048576 ∧ ((l0.take x).filter (fun x => !p x)).length ≤ 1048576 from ⟨Nat.le_trans (List.length_filter_le _ _) (by rw [List.length_take]; omega), Nat.le_trans (List.length_filter_le _ _) (by rw [List.length_take]; omega)⟩)
        clear hz
        generalize rd_T45 l0 (x : Int) = y at hy0 hy1 hy2 hy3 HZ hf1 hf2
        go_wp2_with (fail)
        refine (HP.out y _ (below_alloc HB.out _)).mono ?_
        rw [HZ.out]
        rintro e w5 ⟨rfl, hb⟩
        have HB5 := Aside0.mk (below_step (below_alloc HB.out _) hb)
        have RA5 := Aside0.mk (Kd.R_below (Kd.R_alloc RA.out _) hb)
        have RB5 := Aside0.mk (Kd.R_below (Kd.R_alloc RB.out _) hb)
        have hq0 : w5.cell? ⟨wr.heap.size, 0, none⟩ = some (.int .i64 y.f0) := newcell hb rfl
        have hq1 : w5.cell? ⟨wr.heap.size, 1, none⟩ = some (.int .i64 y.f1) := newcell hb rfl
        have hq2 : w5.cell? ⟨wr.heap.size, 2, none⟩ = some (.bool y.f2) := newcell hb rfl
        have hq3 : w5.cell? ⟨wr.heap.size, 3, none⟩ = some (.bool y.f3) := newcell hb rfl
        clear hb
        go_wp2_with (at_builtin; (refine Kd.R_append k45 (w0 := w) w.heap.size rfl (.tmp 17) (.tmp 19) 27 45 (.agg #[.int .i64 0, .int .i64 0, .bool false, .bool false]) 24 rfl Try.underlying27 info45 rfl (by decide) (by omega) u4 ((l0.take x).filter p) y [.int .i64 y.f0, .int .i64 y.f1, .bool y.f2, .bool y.f3] (fun k => True ∧ some k ≠ (u5 : Value).ownBlock) (fun _ => False) rfl rfl ?aP (fun _ hk => hk.elim) ?aF ?aO ?aB ?aS ?aL ?_; (case aP => exact k45_mkM _ _ _ y); (case aF => exact fun k hk => ⟨trivial, Kd.fresh' (Kd.R_lt RB5.out) k hk⟩); (case aO => exact RA5.out); (case aB => exact HB5.out); (case aS => exact HB5.out.size); (case aL => have := HLN.out; omega); intro v1 w7 ho hb7 hg hat; have HO7 := Aside0.mk ho; have HP7 := Aside0.mk (Kd.R_after (ok := fun _ => True) RB5.out hg hat); have HB7 := Aside0.mk hb7; clear ho hb7 hg hat))
        go_roundw
        case rel => exact ⟨x + 1, congrArg (Value.int .i64) (by omega), ⟨hlt⟩, ⟨by rw [hf1.out]; exact HO7.out⟩, ⟨by rw [hf2.out, List.append_nil]; exact HP7.out⟩, HB7⟩
        case measure =>
          (try rw [hw])
          show l0.length - ((x : Int) + 1).toNat < l0.length - (x : Int).toNat
          omega
      | false =>
        have HZ := Aside0.mk hz
        have hf1 := Aside0.mk (show (l0.take (x + 1)).filter p = (l0.take x).filter p ++ [] by rw [List.take_succ_eq_append_getElem hlt, List.filter_append, ← rdH hlt]; congr 1; simp [List.filter, hz])
        have hf2 := Aside0.mk (show (l0.take (x + 1)).filter (fun x => !p x) = (l0.take x).filter (fun x => !p x) ++ [rd_T45 l0 (x : Int)] by rw [List.take_succ_eq_append_getElem hlt, List.filter_append, ← rdH hlt]; congr 1; simp [List.filter, hz])
        have HLN := Aside0.mk (show ((l0.take x).filter p).length ≤ 1048576 ∧ ((l0.take x).filter (fun x => !p x)).length ≤ 1048576 from ⟨Nat.le_trans (List.length_filter_le _ _) (by rw [List.length_take]; omega), Nat.le_trans (List.length_filter_le _ _) (by rw [List.length_take]; omega)⟩)
        clear hz
        generalize rd_T45 l0 (x : Int) = y at hy0 hy1 hy2 hy3 HZ hf1 hf2
        go_wp2_with (fail)
        refine (HP.out y _ (below_alloc HB.out _)).mono ?_
        rw [HZ.out]
        rintro e w5 ⟨rfl, hb⟩
        have HB5 := Aside0.mk (below_step (below_alloc HB.out _) hb)
        have RA5 := Aside0.mk (Kd.R_below (Kd.R_alloc RA.out _) hb)
        have RB5 := Aside0.mk (Kd.R_below (Kd.R_alloc RB.out _) hb)
        have hq0 : w5.cell? ⟨wr.heap.size, 0, none⟩ = some (.int .i64 y.f0) := newcell hb rfl
        have hq1 : w5.cell? ⟨wr.heap.size, 1, none⟩ = some (.int .i64 y.f1) := newcell hb rfl
        have hq2 : w5.cell? ⟨wr.heap.size, 2, none⟩ = some (.bool y.f2) := newcell hb rfl
        have hq3 : w5.cell? ⟨wr.heap.size, 3, none⟩ = some (.bool y.f3) := newcell hb rfl
        clear hb
        go_wp2_with (at_builtin; (refine Kd.R_append k45 (w0 := w) w.heap.size rfl (.tmp 21) (.tmp 23) 27 45 (.agg #[.int .i64 0, .int .i64 0, .bool false, .bool false]) 24 rfl Try.underlying27 info45 rfl (by decide) (by omega) u5 ((l0.take x).filter (fun x => !p x)) y [.int .i64 y.f0, .int .i64 y.f1, .bool y.f2, .bool y.f3] (fun k => True ∧ some k ≠ (u4 : Value).ownBlock) (fun _ => False) rfl rfl ?aP (fun _ hk => hk.elim) ?aF ?aO ?aB ?aS ?aL ?_; (case aP => exact k45_mkM _ _ _ y); (case aF => exact fun k hk => ⟨trivial, Kd.fresh' (Kd.R_lt RA5.out) k hk⟩); (case aO => exact RB5.out); (case aB => exact HB5.out); (case aS => exact HB5.out.size); (case aL => have := HLN.out; omega); intro v1 w7 ho hb7 hg hat; have HO7 := Aside0.mk ho; have HP7 := Aside0.mk (Kd.R_after (ok := fun _ => True) RA5.out hg hat); have HB7 := Aside0.mk hb7; clear ho hb7 hg hat))
        go_roundw
        case rel => exact ⟨x + 1, congrArg (Value.int .i64) (by omega), ⟨hlt⟩, ⟨by rw [hf1.out, List.append_nil]; exact HP7.out⟩, ⟨by rw [hf2.out]; exact HO7.out⟩, HB7⟩
        case measure =>
          (try rw [hw])
          show l0.length - ((x : Int) + 1).toNat < l0.length - (x : Int).toNat
          omega
    · obtain rfl : x = l0.length := by have := HX.out; omega
      have hdl : decide (l0.length < l0.length) = false := decide_eq_false hlt
      clear hlt
      rw [List.take_length] at RA RB
      go_wp2_with (fail)
      go_ret2
      exact ⟨_, _, rfl, RA.out, RB.out, HB.out⟩
theorem newcell1 {W0 w5 : World} {o : Obj} {c : Array Value} {t : TypeId} {fr : Nat × Nat} {j : Nat} {v : Value} (hb : Below ((W0.alloc o).alloc (.cells c t fr)).heap.size ((W0.alloc o).alloc (.cells c t fr)) w5) (h : c[j]? = some v) : w5.cell? ⟨W0.heap.size + 1, j, none⟩ = some v := by
  have e : W0.heap.size + 1 = (W0.alloc o).heap.size := (World.size_alloc _ _).symm
  rw [e]
  exact newcell hb h
set_option maxHeartbeats 8000000 in
set_option maxRecDepth 100000 in
theorem may1_calls (h x : S45) (b : Nat) (w : World) (hc0 : w.cell? ⟨b, 0, none⟩ = some (.int .i64 h.f0)) (hc1 : w.cell? ⟨b, 1, none⟩ = some (.int .i64 h.f1)) (hc2 : w.cell? ⟨b, 2, none⟩ = some (.bool h.f2)) (hc3 : w.cell? ⟨b, 3, none⟩ = some (.bool h.f3)) :
    Calls Try.prog 73 #[.agg #[.int .i64 x.f0, .int .i64 x.f1, .bool x.f2, .bool x.f3], .pointer (some ⟨b, 0, none⟩)] w fun e w' => e = .returned (.bool (decide (x.f0 < h.f0) && meetB h x)) ∧ Below w.heap.size w w' := by
  have hu := Try.underlying45
  have HB := Aside0.mk (Below.refl w.heap.size w)
  have hlt : b < w.heap.size := World.block_lt_of_cell? w _ hc0
  by_cases hd : x.f0 < h.f0
  · have hdt : decide (x.f0 < h.f0) = true := decide_eq_true hd
    have he := Aside0.mk (show (decide (x.f0 < h.f0) && meetB h x) = meetB h x by rw [hdt, Bool.true_and])
    clear hd
    go_enter Try.func73, Try.ntmps73
    go_wp2_with (fail)
    refine (meets_calls h x _).mono ?_
    rintro e w1 ⟨rfl, hb⟩
    have HB2 := Aside0.mk (below_step (below_alloc HB.out _) hb)
    clear hb
    go_wp2_with (fail)
    go_ret
    exact ⟨by rw [he.out]; rfl, HB2.out⟩
  · have hdt : decide (x.f0 < h.f0) = false := decide_eq_false hd
    have he := Aside0.mk (show (decide (x.f0 < h.f0) && meetB h x) = false by rw [hdt, Bool.false_and])
    clear hd
    go_enter Try.func73, Try.ntmps73
    go_wp2_with (fail)
    go_ret
    exact ⟨by rw [he.out]; rfl, below_alloc HB.out _⟩
def mayB (h w : List S45) (x : S45) : Bool := !h.any (meetB x) && !w.any (fun y => decide (y.f0 < x.f0) && meetB x y)
set_option maxHeartbeats 8000000 in
set_option maxRecDepth 100000 in
theorem may_calls (s : Int) (A1 : Option Addr) (c1 : Nat) (l1 : List S45) (A2 : Option Addr) (c2 : Nat) (l2 : List S45) (x : S45) (w : World) (hr1 : Kd.C k45 w A1 l1.length l1) (hc1 : l1.length ≤ c1) (hr2 : Kd.C k45 w A2 l2.length l2) (hc2 : l2.length ≤ c2) :
    Calls Try.prog 57 #[.agg #[.int .i64 s, .slice A1 l1.length c1, .slice A2 l2.length c2], .agg #[.int .i64 x.f0, .int .i64 x.f1, .bool x.f2, .bool x.f3]] w fun e w' => e = .returned (.bool (mayB l1 l2 x)) ∧ Below w.heap.size w w' := by
  have hu := Try.underlying45
  have hu2 := Try.underlying29
  have HR1 := Aside0.mk hr1
  have HC1 := Aside0.mk hc1
  have HR2 := Aside0.mk hr2
  have HC2 := Aside0.mk hc2
  have hmf : ∀ (fn : Fn) (first cap : Array Value) (w : World), (Instr.makeFunc fn first cap).run Try.prog w = .ok (.func fn first cap) w := fun _ _ _ _ => rfl
  clear hr1 hc1 hr2 hc2
  have HG := Aside0.mk (below_alloc (below_alloc (Below.refl w.heap.size w) (.cells #[.int .i64 s, .slice A1 l1.length c1, .slice A2 l2.length c2] 29 (0, 0))) (.cells #[.int .i64 x.f0, .int .i64 x.f1, .bool x.f2, .bool x.f3] 45 (0, 0)))
  go_enter Try.func57, Try.ntmps57
  go_wp2_with (fail)
  refine (hasHmeets (.agg #[.int .i64 x.f0, .int .i64 x.f1, .bool x.f2, .bool x.f3]) (meetB x) A1 c1 l1 _ (Kd.C_below HR1.out HG.out) HC1.out (fun y W _ => meets_calls x y W)).mono ?_
  cases hz : l1.any (meetB x) with
  | true =>
    have he := Aside0.mk (show mayB l1 l2 x = false by unfold mayB; rw [hz]; rfl)
    clear hz
    rintro e w1 ⟨rfl, hb⟩
    have HB2 := Aside0.mk (below_step HG.out hb)
    clear hb
    go_wp2_with (fail)
    go_ret
    exact ⟨by rw [he.out]; rfl, HB2.out⟩
  | false =>
    have he := Aside0.mk (show mayB l1 l2 x = !l2.any (fun y => decide (y.f0 < x.f0) && meetB x y) by unfold mayB; rw [hz]; rfl)
    clear hz
    rintro e w1 ⟨rfl, hb⟩
    have HB2 := Aside0.mk (below_step HG.out hb)
    have hg0 := Aside0.mk hb
    clear hb
    have hb := hg0.out
    have hq2 : w1.cell? ⟨w.heap.size, 2, none⟩ = some (.slice A2 l2.length c2) := by
      have h0 : ((w.alloc (.cells #[.int .i64 s, .slice A1 l1.length c1, .slice A2 l2.length c2] 29 (0, 0))).alloc (.cells #[.int .i64 x.f0, .int .i64 x.f1, .bool x.f2, .bool x.f3] 45 (0, 0))).cell? ⟨w.heap.size, 2, none⟩ = some (.slice A2 l2.length c2) := by
        rw [World.cell?_alloc_lt _ _ _ (by rw [World.size_alloc]; exact Nat.lt_succ_self _), World.cell?_alloc_new]; rfl
      exact (hb.cell (World.block_lt_of_cell? _ _ h0)).trans h0
    have hp0 : w1.cell? ⟨w.heap.size + 1, 0, none⟩ = some (.int .i64 x.f0) := newcell1 hb rfl
    have hp1 : w1.cell? ⟨w.heap.size + 1, 1, none⟩ = some (.int .i64 x.f1) := newcell1 hb rfl
    have hp2 : w1.cell? ⟨w.heap.size + 1, 2, none⟩ = some (.bool x.f2) := newcell1 hb rfl
    have hp3 : w1.cell? ⟨w.heap.size + 1, 3, none⟩ = some (.bool x.f3) := newcell1 hb rfl
    have HP := Aside0.mk (And.intro hp0 (And.intro hp1 (And.intro hp2 hp3)))
    clear hb hp0 hp1 hp2 hp3
    go_wp2_with (fail)
    refine (hasH73 (.pointer (some ⟨w.heap.size + 1, 0, none⟩)) (fun y => decide (y.f0 < x.f0) && meetB x y) A2 c2 l2 _ (Kd.C_below HR2.out HB2.out) HC2.out (fun y W hW => may1_calls x y (w.heap.size + 1) W ((hW.cell (World.block_lt_of_cell? _ _ HP.out.1)).trans HP.out.1) ((hW.cell (World.block_lt_of_cell? _ _ HP.out.2.1)).trans HP.out.2.1) ((hW.cell (World.block_lt_of_cell? _ _ HP.out.2.2.1)).trans HP.out.2.2.1) ((hW.cell (World.block_lt_of_cell? _ _ HP.out.2.2.2)).trans HP.out.2.2.2))).mono ?_
    rintro e w2 ⟨rfl, hb⟩
    have HB3 := Aside0.mk (below_step HB2.out hb)
    clear hb
    go_wp2_with (fail)
    go_ret
    exact ⟨by rw [he.out]; rfl, HB3.out⟩
set_option maxHeartbeats 8000000 in
set_option maxRecDepth 100000 in
theorem cl62 (s : Int) (x : S45) (b : Nat) (w : World) (hc0 : w.cell? ⟨b, 0, none⟩ = some (.int .i64 s)) :
    Calls Try.prog 62 #[.agg #[.int .i64 x.f0, .int .i64 x.f1, .bool x.f2, .bool x.f3], .pointer (some ⟨b, 0, none⟩)] w fun e w' => e = .returned (.bool (decide (x.f0 = s))) ∧ Below w.heap.size w w' := by
  have hu := Try.underlying45
  have HB := Aside0.mk (Below.refl w.heap.size w)
  have hlt : b < w.heap.size := World.block_lt_of_cell? w _ hc0
  go_enter Try.func62, Try.ntmps62
  go_wp2_with (fail)
  go_ret
  exact ⟨rfl, below_alloc HB.out _⟩
set_option maxHeartbeats 8000000 in
set_option maxRecDepth 100000 in
theorem cl58 (s : Int) (x : S45) (b : Nat) (w : World) (hc0 : w.cell? ⟨b, 0, none⟩ = some (.int .i64 s)) :
    Calls Try.prog 58 #[.agg #[.int .i64 x.f0, .int .i64 x.f1, .bool x.f2, .bool x.f3], .pointer (some ⟨b, 0, none⟩)] w fun e w' => e = .returned (.bool (decide (x.f0 = s))) ∧ Below w.heap.size w w' := by
  have hu := Try.underlying45
  have HB := Aside0.mk (Below.refl w.heap.size w)
  have hlt : b < w.heap.size := World.block_lt_of_cell? w _ hc0
  go_enter Try.func58, Try.ntmps58
  go_wp2_with (fail)
  go_ret
  exact ⟨rfl, below_alloc HB.out _⟩
set_option maxHeartbeats 8000000 in
set_option maxRecDepth 100000 in
theorem cl54 (s t : Int) (x : S45) (b c : Nat) (w : World) (hc0 : w.cell? ⟨b, 0, none⟩ = some (.int .i64 s)) (hc1 : w.cell? ⟨c, 0, none⟩ = some (.int .i64 t)) :
    Calls Try.prog 54 #[.agg #[.int .i64 x.f0, .int .i64 x.f1, .bool x.f2, .bool x.f3], .pointer (some ⟨b, 0, none⟩), .pointer (some ⟨c, 0, none⟩)] w fun e w' => e = .returned (.bool (decide (x.f0 = s) && decide (x.f1 ≤ t))) ∧ Below w.heap.size w w' := by
  have hu := Try.underlying45
  have HB := Aside0.mk (Below.refl w.heap.size w)
  have hlt : b < w.heap.size := World.block_lt_of_cell? w _ hc0
  have hlt2 : c < w.heap.size := World.block_lt_of_cell? w _ hc1
  by_cases h : x.f0 = s
  · have hd : (x.f0 == s) = true := beq_iff_eq.mpr h
    have he := Aside0.mk (show (decide (x.f0 = s) && decide (x.f1 ≤ t)) = decide (x.f1 ≤ t) by rw [decide_eq_true h, Bool.true_and])
    clear h
    go_enter Try.func54, Try.ntmps54
    go_wp2_with (fail)
    go_ret
    exact ⟨by rw [he.out]; rfl, below_alloc HB.out _⟩
  · have hd : (x.f0 == s) = false := beq_eq_false_iff_ne.mpr h
    have he := Aside0.mk (show (decide (x.f0 = s) && decide (x.f1 ≤ t)) = false by rw [decide_eq_false h, Bool.false_and])
    clear h
    go_enter Try.func54, Try.ntmps54
    go_wp2_with (fail)
    go_ret
    exact ⟨by rw [he.out]; rfl, below_alloc HB.out _⟩
def tkB (h x : S45) : Bool := meetB h x && (decide (h.f0 < x.f0) && !x.f3)
set_option maxHeartbeats 8000000 in
set_option maxRecDepth 100000 in
theorem cl63 (h x : S45) (b : Nat) (w : World) (hc0 : w.cell? ⟨b, 0, none⟩ = some (.int .i64 h.f0)) (hc1 : w.cell? ⟨b, 1, none⟩ = some (.int .i64 h.f1)) (hc2 : w.cell? ⟨b, 2, none⟩ = some (.bool h.f2)) (hc3 : w.cell? ⟨b, 3, none⟩ = some (.bool h.f3)) :
    Calls Try.prog 63 #[.agg #[.int .i64 x.f0, .int .i64 x.f1, .bool x.f2, .bool x.f3], .pointer (some ⟨b, 0, none⟩)] w fun e w' => e = .returned (.bool (tkB h x)) ∧ Below w.heap.size w w' := by
  have hu := Try.underlying45
  have HB := Aside0.mk (below_alloc (Below.refl w.heap.size w) (.cells #[.int .i64 x.f0, .int .i64 x.f1, .bool x.f2, .bool x.f3] 45 (0, 0)))
  have hlt : b < w.heap.size := World.block_lt_of_cell? w _ hc0
  have HC := Aside0.mk (show (w.alloc (.cells #[.int .i64 x.f0, .int .i64 x.f1, .bool x.f2, .bool x.f3] 45 (0, 0))).cell? ⟨b, 0, none⟩ = some (.int .i64 h.f0) from (World.cell?_alloc_lt _ _ _ hlt).trans hc0)
  go_enter Try.func63, Try.ntmps63
  go_wp2_with (fail)
  refine (meets_calls h x _).mono ?_
  cases hm : meetB h x with
  | false =>
    have he := Aside0.mk (show tkB h x = false by unfold tkB; rw [hm]; rfl)
    clear hm
    rintro e w1 ⟨rfl, hb⟩
    have HB2 := Aside0.mk (below_step HB.out hb)
    clear hb
    go_wp2_with (fail)
    go_ret
    exact ⟨by rw [he.out]; rfl, HB2.out⟩
  | true =>
    have he := Aside0.mk (show tkB h x = (decide (h.f0 < x.f0) && !x.f3) by unfold tkB; rw [hm]; rfl)
    clear hm
    rintro e w1 ⟨rfl, hb⟩
    have HB2 := Aside0.mk (below_step HB.out hb)
    have hb0 : w1.cell? ⟨b, 0, none⟩ = some (.int .i64 h.f0) := (hb.cell (World.block_lt_of_cell? _ _ HC.out)).trans HC.out
    have hq0 : w1.cell? ⟨w.heap.size, 0, none⟩ = some (.int .i64 x.f0) := newcell hb rfl
    have hq3 : w1.cell? ⟨w.heap.size, 3, none⟩ = some (.bool x.f3) := newcell hb rfl
    clear hb
    by_cases hd : h.f0 < x.f0
    · have hdt : decide (h.f0 < x.f0) = true := decide_eq_true hd
      have he := Aside0.mk (he.out.trans (show (decide (h.f0 < x.f0) && !x.f3) = !x.f3 by rw [hdt, Bool.true_and]))
      clear hd
      go_wp2_with (fail)
      go_ret
      exact ⟨by rw [he.out]; rfl, HB2.out⟩
    · have hdt : decide (h.f0 < x.f0) = false := decide_eq_false hd
      have he := Aside0.mk (he.out.trans (show (decide (h.f0 < x.f0) && !x.f3) = false by rw [hdt, Bool.false_and]))
      clear hd
      go_wp2_with (fail)
      go_ret
      exact ⟨by rw [he.out]; rfl, HB2.out⟩
end Go.Proofs.Ytjldpnhlegbjkaa.PA
