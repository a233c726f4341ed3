import Derived.Test.YtdjiclhjficgfaaPXx0
import Derived.Test.YtdjiclhjficgfaaPXx3
import Derived.Test.YtdjiclhjficgfaaPXx12
namespace Go.Proofs.Ytdjiclhjficgfaa.PX
open Go.RowKit Go.Proofs.YtdjiclhjficgfaaW.PrintWords Go.Proofs.YtdjiclhjficgfaaW.PrintLast Go.Proofs.YtdjiclhjficgfaaW.PrintMore
attribute [local go_sem] max2_int min2_int max_two min_two max_three min_three max_four min_four
set_option linter.unusedVariables false
set_option linter.unusedSimpArgs false

set_option maxHeartbeats 8000000 in
set_option maxRecDepth 100000 in
theorem impl_PairsPut_yes (k : Nat) (A0 : Option Addr) (c0 : Nat) (l0 : List S48) (A1 : Option Addr) (c1 : Nat) (l1 : List S48) (w : World) (hr0 : Kd.C k48 w A0 l0.length l0) (hc0 : l0.length ≤ c0) (hr1 : Kd.C k48 w A1 l1.length l1) (hc1 : l1.length ≤ c1)
 (h0 : impl_pairsOk.f k l0 = some true) (h1 : impl_pairsOk.f k l1 = some true) (q0 : prKeysIn l0 = true) (q1 : prKeysIn l1 = true) :
 Calls Try.prog 34 #[.slice A0 l0.length c0, .slice A1 l1.length c1] w fun e w' => ∃ v : Value, e = .returned v ∧ Kd.R k48 48 w' w.heap.size (fun _ => True) v (prOut (prPutAll (prPutAll prZeros l0) l1) 32) ∧ Below w.heap.size w w' := by
 have hu1 := Try.underlying48
 have hu2 := Try.underlying84
 have HR0 := Aside0.mk hr0
 have HR1 := Aside0.mk hr1
 have HC0 := Aside0.mk hc0
 have HC1 := Aside0.mk hc1
 have H0 := Aside0.mk h0
 have H1 := Aside0.mk h1
 have Q0 := Aside0.mk q0
 have Q1 := Aside0.mk q1
 have hm0 : l0.length ≤ 9223372036854775807 := hr0.2.1
 have hm1 : l1.length ≤ 9223372036854775807 := hr1.2.1
 clear hr0 hr1 hc0 hc1 h0 h1 q0 q1
 go_enter Try.func34, Try.ntmps34
 go_wp2_with (fail)
 refine (impl_pairsOk.calls k A0 c0 l0 true _ HR0.out HC0.out H0.out).mono ?_
 rintro e w1 ⟨rfl, hb⟩
 have HB := Aside0.mk hb
 clear hb
 go_wp2_with (fail)
 refine (impl_pairsOk.calls k A1 c1 l1 true _ (Kd.C_below HR1.out HB.out) HC1.out H1.out).mono ?_
 rintro e w2 ⟨rfl, hb⟩
 have HB := Aside0.mk (below_step HB.out hb)
 clear hb
 go_wp2_with ((with_reducible refine gate_dst (N := 5) rfl ?_); refine box_event ?hg (N := 5) ?hd (cs := (prZeros.map (Value.int .i64)).toArray) (t := 84) ?hr ?_; (case hd => rfl); (case hg => rfl); (case hr => first | (go_simp; done) | (go_simp; rfl)); intro ga hg w3 hbox hb; have BA := Aside0.mk hbox; have GA := Aside0.mk (show w.heap.size ≤ ga by rw [hg]; exact HB.out.size); have HB := Aside0.mk (below_step HB.out hb); clear hb hbox hg)
 go_loopw [23] (fun i wr => ∃ k : Nat, k ≤ l0.length ∧ i = .int .i64 k ∧ Aside0 (wr.heap[ga]? = some (.cells ((prPutAll prZeros (l0.take k)).map (Value.int .i64)).toArray 84 (0, 0))) ∧ Aside0 (Below w.heap.size w wr)) (fun i _ => l0.length - (intOf i).toNat)
 case atStart => exact ⟨0, Nat.zero_le _, rfl, BA, HB⟩
 case round =>
  obtain ⟨k, hk, rfl, BA, HB⟩ := hrel
  by_cases hlt : k < l0.length
  ·obtain ⟨ad, hA, hx0, hx1⟩ := at_T48 HR0.out (k : Int) (by omega) (by omega)
   subst hA
   have hy0 := (HB.out.cell (World.block_lt_of_cell? w _ hx0)).trans hx0
   have hy1 := (HB.out.cell (World.block_lt_of_cell? w _ hx1)).trans hx1
   have hk32 := prKeysIn_at Q0.out k hlt
   have hsn := prPutAll_snoc prZeros l0 k hlt
   have HSN := Aside0.mk hsn
   simp only [Int.toNat_natCast] at hy0 hy1
   generalize rd_T48 l0 k = pr at hy0 hy1 hk32 HSN
   obtain ⟨pk, pv⟩ := pr
   simp only at hy0 hy1 hk32
   have HSN := Aside0.mk HSN.out
   simp only at HSN
   have p1 : (0 ≤ pk) = True := eq_true hk32.1
   have p2 : (pk < 32) = True := eq_true hk32.2
   have hz : wr.cell? ⟨ga, pk.toNat, none⟩ = some (.int .i64 ((prPutAll prZeros (l0.take k)).getD pk.toNat 0)) := by
    rw [blk_cell BA.out pk.toNat]
    have hl : pk.toNat < (prPutAll prZeros (l0.take k)).length := by rw [prPutAll_length, show prZeros.length = 32 from rfl]; omega
    simp [List.getElem?_eq_getElem hl, List.getD_eq_getElem?_getD]
   have GL := Aside0.mk (blk_lt BA.out)
   have hdl : decide (k < l0.length) = true := decide_eq_true hlt
   have hz5 : (wr.alloc (Obj.cells #[.int .i64 pk, .int .i64 pv] 48)).cell? ⟨ga, pk.toNat, none⟩ = some (.int .i64 ((prPutAll prZeros (l0.take k)).getD pk.toNat 0)) := (World.cell?_alloc_lt _ _ _ GL.out).trans hz
   have hzf5 : (wr.alloc (Obj.cells #[.int .i64 pk, .int .i64 pv] 48)).frozen? ⟨ga, pk.toNat, none⟩ = false := blk_frozen (blk_alloc BA.out _) pk.toNat
   clear hx0 hx1 hsn hk32 hz
   go_wp2
   go_roundw
   case rel => exact ⟨k + 1, by omega, by go_num, ⟨blk_put (blk_alloc BA.out _) pk.toNat _ (by rw [HSN.out, List.map_set]; simp)⟩, ⟨below_set (below_alloc HB.out _) GA.out⟩⟩
   case measure => simp [intOf]; omega
  ·obtain rfl : k = l0.length := by omega
   rw [List.take_length] at BA
   clear hlt hk
   go_wp2_with (fail)
   go_loopw [35] (fun i wr => ∃ k : Nat, k ≤ l1.length ∧ i = .int .i64 k ∧ Aside0 (wr.heap[ga]? = some (.cells ((prPutAll (prPutAll prZeros l0) (l1.take k)).map (Value.int .i64)).toArray 84 (0, 0))) ∧ Aside0 (Below w.heap.size w wr)) (fun i _ => l1.length - (intOf i).toNat)
   case atStart => exact ⟨0, Nat.zero_le _, rfl, BA, HB⟩
   case round =>
    obtain ⟨k, hk, rfl, BA, HB⟩ := hrel
    by_cases hlt : k < l1.length
    ·obtain ⟨ad, hA, hx0, hx1⟩ := at_T48 HR1.out (k : Int) (by omega) (by omega)
     subst hA
     have hy0 := (HB.out.cell (World.block_lt_of_cell? w _ hx0)).trans hx0
     have hy1 := (HB.out.cell (World.block_lt_of_cell? w _ hx1)).trans hx1
     have hk32 := prKeysIn_at Q1.out k hlt
     have hsn := prPutAll_snoc (prPutAll prZeros l0) l1 k hlt
     have HSN := Aside0.mk hsn
     simp only [Int.toNat_natCast] at hy0 hy1
     generalize rd_T48 l1 k = pr at hy0 hy1 hk32 HSN
     obtain ⟨pk, pv⟩ := pr
     simp only at hy0 hy1 hk32
     have HSN := Aside0.mk HSN.out
     simp only at HSN
     have p1 : (0 ≤ pk) = True := eq_true hk32.1
     have p2 : (pk < 32) = True := eq_true hk32.2
     have hz : wr.cell? ⟨ga, pk.toNat, none⟩ = some (.int .i64 ((prPutAll (prPutAll prZeros l0) (l1.take k)).getD pk.toNat 0)) := by
      rw [blk_cell BA.out pk.toNat]
      have hl : pk.toNat < (prPutAll (prPutAll prZeros l0) (l1.take k)).length := by rw [prPutAll_length, prPutAll_length, show prZeros.length = 32 from rfl]; omega
      simp [List.getElem?_eq_getElem hl, List.getD_eq_getElem?_getD]
     have GL := Aside0.mk (blk_lt BA.out)
     have hdl : decide (k < l1.length) = true := decide_eq_true hlt
     have hz5 : (wr.alloc (Obj.cells #[.int .i64 pk, .int .i64 pv] 48)).cell? ⟨ga, pk.toNat, none⟩ = some (.int .i64 ((prPutAll (prPutAll prZeros l0) (l1.take k)).getD pk.toNat 0)) := (World.cell?_alloc_lt _ _ _ GL.out).trans hz
     have hzf5 : (wr.alloc (Obj.cells #[.int .i64 pk, .int .i64 pv] 48)).frozen? ⟨ga, pk.toNat, none⟩ = false := blk_frozen (blk_alloc BA.out _) pk.toNat
     clear hx0 hx1 hsn hk32 hz
     go_wp2
     go_roundw
     case rel => exact ⟨k + 1, by omega, by go_num, ⟨blk_put (blk_alloc BA.out _) pk.toNat _ (by rw [HSN.out, List.map_set]; simp)⟩, ⟨below_set (below_alloc HB.out _) GA.out⟩⟩
     case measure => simp [intOf]; omega
    ·obtain rfl : k = l1.length := by omega
     rw [List.take_length] at BA
     clear hlt hk
     have hal : (prPutAll (prPutAll prZeros l0) l1).length = 32 := by rw [prPutAll_length, prPutAll_length]; rfl
     generalize hq : prPutAll (prPutAll prZeros l0) l1 = arr at BA hal ⊢
     have HQ := Aside0.mk hq
     clear hq
     have HAL := Aside0.mk hal
     have hidx : ∀ (j : Nat), j < 32 → ∀ W : World, (Instr.index 84 (.agg (arr.map (Value.int .i64)).toArray) (.int .i64 (j : Int))).run Try.prog W = .ok (.int .i64 (arr.getD j 0)) W := fun j hj W =>
      run_index_arr W 84 3 32 _ _ j Try.underlying84 Try.underlying3 info3 hj (by simp [List.getElem?_eq_getElem (show j < arr.length by omega), List.getD_eq_getElem?_getD])
     have HIX := Aside0.mk hidx
     have hsz0 : (Try.prog.info? 84).map (·.size) = some 32 := by kernel_rfl
     have HSZ := Aside0.mk (show (Try.prog.info? 84).map (·.size) = some ((arr.map (Value.int .i64)).toArray).size by rw [hsz0]; simp [hal])
     clear hsz0
     clear hal hidx
     go_wp2_with ((with_reducible refine gate_dst (N := 45) rfl ?_); refine wpList_load_row rfl 84 (.tmp 5) rfl ga rfl 84 ((arr.map (Value.int .i64)).toArray) (0, 0) _ BA.out Try.underlying84 rfl HSZ.out ?_)
     go_loopw [10, 46] (fun v10 i wr => ∃ k : Nat, k ≤ 32 ∧ i = .int .i64 k ∧ Aside0 (Kd.R k48 48 wr w.heap.size (fun _ => True) v10 (prOut arr k)) ∧ Aside0 (Below w.heap.size w wr)) (fun _ i _ => 32 - (intOf i).toNat)
     case atStart => exact ⟨0, Nat.zero_le _, rfl, ⟨Kd.R_nil _ _ _ _ _⟩, HB⟩
     case round =>
      obtain ⟨k, hk, rfl, HO, HB⟩ := hrel
      by_cases hlt : k < 32
      ·have hx := HIX.out k hlt
       have hdl : decide ((k : Int) < 32) = true := decide_eq_true (by omega)
       have hlen := Aside0.mk (prOut_length arr k)
       by_cases hz : arr.getD k 0 = 0
       ·have hsn2 := Aside0.mk (prOut_zero arr k hz)
        rw [hz] at hx
        clear hz
        go_wp2
        go_roundw
        case rel => exact ⟨k + 1, by omega, by go_num, ⟨by rw [hsn2.out]; exact HO.out⟩, HB⟩
        case measure => simp [intOf]; omega
       ·have hb : (arr.getD k 0 != 0) = true := bne_iff_ne.mpr hz
        have hsn2 := Aside0.mk (prOut_one arr k hz)
        clear hz
        generalize arr.getD k 0 = x at hx hb hsn2
        go_wp2_with (at_builtin; refine Kd.R_append k48 (w0 := w) w.heap.size rfl (.tmp 52) (.tmp 56) 32 48 (.agg #[(.int .i64 0), (.int .i64 0)]) 16 rfl Try.underlying32 info48 rfl (by decide) (by omega) u10 (prOut arr k) (⟨(k : Int), x⟩ : S48) [.int .i64 (k : Int), .int .i64 x] (fun _ => True) (fun _ => False) rfl rfl ?aP (fun _ hk => hk.elim) ?aF ?aO ?aB ?aS ?aL ?_; (case aP => exact k48_mkM _ _ _ (⟨(k : Int), x⟩ : S48)); (case aF => exact fun _ _ => trivial); (case aO => exact HO.out); (case aB => exact HB.out); (case aS => exact HB.out.size); (case aL => have := hlen.out; omega); intro v1 w7 ho hb7 hg hat; have HO7 := Aside0.mk ho; have HB7 := Aside0.mk hb7; clear ho hb7 hg hat)
        go_roundw
        case rel => exact ⟨k + 1, by omega, by go_num, ⟨by rw [hsn2.out]; exact HO7.out⟩, HB7⟩
        case measure => simp [intOf]; omega
      ·obtain rfl : k = 32 := by omega
       clear hlt hk
       go_wp2_with (fail)
       go_ret
       refine ⟨_, rfl, ?_, HB.out⟩
       first | exact HO.out | (rw [HQ.out]; exact HO.out)

def impl_PairsPut.f (k : Nat) (l0 : List (S48)) (l1 : List (S48)) : Option ((List (S48))) := (impl_pairsOk.f k l0).bind fun b0 => (if b0 = true then ((impl_pairsOk.f k l1).bind fun b1 => (if b1 = true then (if (prKeysIn l0 && prKeysIn l1) = true then some (prOut (prPutAll (prPutAll prZeros l0) l1) 32) else none) else some [])) else some [])
theorem impl_PairsPut.mono : ∀ a0 a1 k, LeO (impl_PairsPut.f k a0 a1) (impl_PairsPut.f (k + 1) a0 a1) := by
 intro a0 a1 k
 unfold impl_PairsPut.f
 repeat' first
  | (with_reducible exact impl_pairsOk.mono _ _)
  | (with_reducible exact LeO.refl _)
  | (with_reducible exact LeO.none _)
  | (with_reducible refine LeO.ite ?_ ?_)
  | (with_reducible refine LeO.bind ?_ (fun _ => ?_))
  | exact impl_pairsOk.mono _ _
  | exact LeO.none _
  | refine LeO.ite ?_ ?_
  | refine LeO.bind ?_ (fun _ => ?_)
set_option maxHeartbeats 8000000 in
set_option maxRecDepth 100000 in
theorem impl_PairsPut.calls (k : Nat) (A0 : Option Addr) (c0 : Nat) (l0 : List (S48)) (A1 : Option Addr) (c1 : Nat) (l1 : List (S48)) (r : List (S48)) (w : World) (hr0 : Kd.C k48 w A0 l0.length l0) (hc0 : l0.length ≤ c0) (hr1 : Kd.C k48 w A1 l1.length l1) (hc1 : l1.length ≤ c1) (h : impl_PairsPut.f k l0 l1 = some r) :
 Calls Try.prog 34 #[.slice A0 l0.length c0, .slice A1 l1.length c1] w fun e w' => ∃ v0_ : Value, e = .returned (v0_) ∧ Kd.R k48 48 w' w.heap.size (fun _ => True) v0_ r ∧ Below w.heap.size w w' := by
 unfold impl_PairsPut.f at h
 obtain ⟨b0, A0_, h⟩ := Option.bind_eq_some_iff.mp h
 cases b0 with
 | false =>
  rw [if_neg (by decide)] at h
  obtain rfl := Option.some.inj h
  have H0 := Aside0.mk A0_
  have HR0 := Aside0.mk hr0
  have HC0 := Aside0.mk hc0
  clear h A0_ hr0 hc0 hr1 hc1
  go_enter Try.func34, Try.ntmps34
  go_wp2_with (fail)
  refine (impl_pairsOk.calls k A0 c0 l0 false _ HR0.out HC0.out H0.out).mono ?_
  rintro e w1 ⟨rfl, hb⟩
  have HB := Aside0.mk hb
  clear hb
  go_wp2_with (fail)
  go_ret
  exact ⟨_, rfl, Kd.R_nil _ _ _ _ _, HB.out⟩
 | true =>
  rw [if_pos rfl] at h
  obtain ⟨b1, A1_, h⟩ := Option.bind_eq_some_iff.mp h
  cases b1 with
  | false =>
   rw [if_neg (by decide)] at h
   obtain rfl := Option.some.inj h
   have H0 := Aside0.mk A0_
   have H1 := Aside0.mk A1_
   have HR0 := Aside0.mk hr0
   have HC0 := Aside0.mk hc0
   have HR1 := Aside0.mk hr1
   have HC1 := Aside0.mk hc1
   clear h A0_ A1_ hr0 hc0 hr1 hc1
   go_enter Try.func34, Try.ntmps34
   go_wp2_with (fail)
   refine (impl_pairsOk.calls k A0 c0 l0 true _ HR0.out HC0.out H0.out).mono ?_
   rintro e w1 ⟨rfl, hb⟩
   have HB := Aside0.mk hb
   clear hb
   go_wp2_with (fail)
   refine (impl_pairsOk.calls k A1 c1 l1 false _ (Kd.C_below HR1.out HB.out) HC1.out H1.out).mono ?_
   rintro e w2 ⟨rfl, hb⟩
   have HB := Aside0.mk (below_step HB.out hb)
   clear hb
   go_wp2_with (fail)
   go_ret
   exact ⟨_, rfl, Kd.R_nil _ _ _ _ _, HB.out⟩
  | true =>
   rw [if_pos rfl] at h
   by_cases hq : (prKeysIn l0 && prKeysIn l1) = true
   ·rw [if_pos hq] at h
    obtain rfl := Option.some.inj h
    rw [Bool.and_eq_true] at hq
    exact impl_PairsPut_yes k A0 c0 l0 A1 c1 l1 w hr0 hc0 hr1 hc1 A0_ A1_ hq.1 hq.2
   ·rw [if_neg hq] at h
    cases h

end Go.Proofs.Ytdjiclhjficgfaa.PX
