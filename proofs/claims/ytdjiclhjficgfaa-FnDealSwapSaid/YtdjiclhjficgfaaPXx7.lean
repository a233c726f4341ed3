import Derived.Test.YtdjiclhjficgfaaPXx0
import Derived.Test.YtdjiclhjficgfaaPXx6
namespace Go.Proofs.Ytdjiclhjficgfaa.PX
open Go.RowKit Go.Proofs.YtdjiclhjficgfaaW.PrintWords Go.Proofs.YtdjiclhjficgfaaW.PrintLast Go.Proofs.YtdjiclhjficgfaaW.PrintMore
attribute [local go_sem] max2_int min2_int max_two min_two max_three min_three max_four min_four
set_option linter.unusedVariables false
set_option linter.unusedSimpArgs false

def stOk (s : S46) : Bool := decide (0 ≤ s.f1 ∧ s.f1 ≤ 31) && decide (-9999 ≤ s.f2 ∧ s.f2 ≤ 9999) && (decide (s.f0 = 1) && decide (s.f2 = 0) || decide (s.f0 = 2) || decide (s.f0 = 3) || decide (s.f0 = 4))
def dealOk (l : List S46) : Bool := decide (1 ≤ l.length ∧ l.length ≤ 6) && l.all stOk
def stTy (s : S46) : TypeId := if s.f0 = 1 then 114 else if s.f0 = 2 then 116 else if s.f0 = 3 then 118 else 119
def stVal (s : S46) : Value := if s.f0 = 1 then .agg #[.int .i64 s.f1] else .agg #[.int .i64 s.f1, .int .i64 s.f2]
def encStep (s : S46) : Value := .iface (stTy s) (stVal s)
theorem encStep_one (s : S46) : (encStep s).oneCell' = true := rfl
def kStep : Kd S46 := Kd.scalar encStep encStep_one
theorem isKeyEq (n : Int) : impl_isKey.f n = some (decide (0 ≤ n ∧ n ≤ 31)) := by
 unfold impl_isKey.f impl_within.f
 by_cases h : (0 : Int) ≤ n <;> simp [h]
theorem isValEq (n : Int) : impl_isVal.f n = some (decide (-9999 ≤ n ∧ n ≤ 9999)) := by
 unfold impl_isVal.f impl_within.f
 by_cases h : (-9999 : Int) ≤ n <;> simp [h]
theorem withinEq (n a b : Int) : impl_within.f n a b = some (decide (a ≤ n ∧ n ≤ b)) := by
 unfold impl_within.f
 by_cases h : a ≤ n <;> simp [h]
set_option maxHeartbeats 8000000 in
set_option maxRecDepth 100000 in
theorem stepOf_get (k n : Int) (w : World) (hk : 0 ≤ k ∧ k ≤ 31) (hv : -9999 ≤ n ∧ n ≤ 9999) :
 Calls Try.prog 79 #[.agg #[.int .i64 1, .int .i64 k, .int .i64 n]] w fun e w' => e = .returned (.tuple #[.iface 114 (.agg #[.int .i64 k]), .bool (n == 0)]) ∧ Below w.heap.size w w' := by
 have hu := Try.underlying46
 have HB := Aside0.mk (Below.refl w.heap.size w)
 have HK := Aside0.mk ((isKeyEq k).trans (congrArg some (decide_eq_true hk)))
 have HV := Aside0.mk ((isValEq n).trans (congrArg some (decide_eq_true hv)))
 clear hk hv
 go_enter Try.func79, Try.ntmps79
 go_wp2_with (fail)
 refine (impl_isKey.calls k true _ HK.out).mono ?_
 rintro e w2 ⟨rfl, ⟨nd, rfl⟩⟩
 go_wp2_with (fail)
 refine (impl_isVal.calls _ true _ HV.out).mono ?_
 rintro e w2 ⟨rfl, ⟨nd2, rfl⟩⟩
 go_wp2_with (fail)
 go_quiet (fail)
 go_wp2_with (fail)
 go_ret2
 exact ⟨rfl, by repeat (first | exact HB.out | apply pw_below_drewN | apply below_alloc)⟩
set_option maxHeartbeats 8000000 in
set_option maxRecDepth 100000 in
theorem stepOf_num (d k n : Int) (w : World) (hk : 0 ≤ k ∧ k ≤ 31) (hv : -9999 ≤ n ∧ n ≤ 9999) (hd : d = 2 ∨ d = 3 ∨ d = 4) :
 Calls Try.prog 79 #[.agg #[.int .i64 d, .int .i64 k, .int .i64 n]] w fun e w' => e = .returned (.tuple #[.iface (stTy ⟨d, k, n⟩) (stVal ⟨d, k, n⟩), .bool true]) ∧ Below w.heap.size w w' := by
 have hu := Try.underlying46
 have HB := Aside0.mk (Below.refl w.heap.size w)
 have HK := Aside0.mk ((isKeyEq k).trans (congrArg some (decide_eq_true hk)))
 have HV := Aside0.mk ((isValEq n).trans (congrArg some (decide_eq_true hv)))
 clear hk hv
 rcases hd with rfl | rfl | rfl
 all_goals
  go_enter Try.func79, Try.ntmps79
  go_wp2_with (fail)
  refine (impl_isKey.calls k true _ HK.out).mono ?_
  rintro e w2 ⟨rfl, ⟨nd, rfl⟩⟩
  go_wp2_with (fail)
  refine (impl_isVal.calls _ true _ HV.out).mono ?_
  rintro e w2 ⟨rfl, ⟨nd2, rfl⟩⟩
  go_wp2_with (fail)
  go_ret2
  exact ⟨rfl, by repeat (first | exact HB.out | apply pw_below_drewN | apply below_alloc)⟩
set_option maxHeartbeats 8000000 in
set_option maxRecDepth 100000 in
theorem stepOf_none (d k n : Int) (w : World) (hk : 0 ≤ k ∧ k ≤ 31) (hv : -9999 ≤ n ∧ n ≤ 9999) (hd : ¬ (d = 1 ∨ d = 2 ∨ d = 3 ∨ d = 4)) :
 Calls Try.prog 79 #[.agg #[.int .i64 d, .int .i64 k, .int .i64 n]] w fun e w' => e = .returned (.tuple #[.nilIface, .bool false]) ∧ Below w.heap.size w w' := by
 have hu := Try.underlying46
 have HB := Aside0.mk (Below.refl w.heap.size w)
 have HK := Aside0.mk ((isKeyEq k).trans (congrArg some (decide_eq_true hk)))
 have HV := Aside0.mk ((isValEq n).trans (congrArg some (decide_eq_true hv)))
 clear hk hv
 have d1 : (d == 1) = false := beq_eq_false_iff_ne.mpr (fun h => hd (.inl h))
 have d2 : (d == 2) = false := beq_eq_false_iff_ne.mpr (fun h => hd (.inr (.inl h)))
 have d3 : (d == 3) = false := beq_eq_false_iff_ne.mpr (fun h => hd (.inr (.inr (.inl h))))
 have d4 : (d == 4) = false := beq_eq_false_iff_ne.mpr (fun h => hd (.inr (.inr (.inr h))))
 clear hd
 go_enter Try.func79, Try.ntmps79
 go_wp2_with (fail)
 refine (impl_isKey.calls k true _ HK.out).mono ?_
 rintro e w2 ⟨rfl, ⟨nd, rfl⟩⟩
 go_wp2_with (fail)
 refine (impl_isVal.calls _ true _ HV.out).mono ?_
 rintro e w2 ⟨rfl, ⟨nd2, rfl⟩⟩
 go_wp2_with (fail)
 go_ret2
 exact ⟨rfl, by repeat (first | exact HB.out | apply pw_below_drewN | apply below_alloc)⟩
set_option maxHeartbeats 8000000 in
set_option maxRecDepth 100000 in
theorem stepOf_noval (d k n : Int) (w : World) (hk : 0 ≤ k ∧ k ≤ 31) (hv : ¬ (-9999 ≤ n ∧ n ≤ 9999)) :
 Calls Try.prog 79 #[.agg #[.int .i64 d, .int .i64 k, .int .i64 n]] w fun e w' => e = .returned (.tuple #[.nilIface, .bool false]) ∧ Below w.heap.size w w' := by
 have hu := Try.underlying46
 have HB := Aside0.mk (Below.refl w.heap.size w)
 have HK := Aside0.mk ((isKeyEq k).trans (congrArg some (decide_eq_true hk)))
 have HV := Aside0.mk ((isValEq n).trans (congrArg some (decide_eq_false hv)))
 clear hk hv
 go_enter Try.func79, Try.ntmps79
 go_wp2_with (fail)
 refine (impl_isKey.calls k true _ HK.out).mono ?_
 rintro e w2 ⟨rfl, ⟨nd, rfl⟩⟩
 go_wp2_with (fail)
 refine (impl_isVal.calls _ false _ HV.out).mono ?_
 rintro e w2 ⟨rfl, ⟨nd2, rfl⟩⟩
 go_wp2_with (fail)
 go_ret2
 exact ⟨rfl, by repeat (first | exact HB.out | apply pw_below_drewN | apply below_alloc)⟩
set_option maxHeartbeats 8000000 in
set_option maxRecDepth 100000 in
theorem stepOf_nokey (d k n : Int) (w : World) (hk : ¬ (0 ≤ k ∧ k ≤ 31)) :
 Calls Try.prog 79 #[.agg #[.int .i64 d, .int .i64 k, .int .i64 n]] w fun e w' => e = .returned (.tuple #[.nilIface, .bool false]) ∧ Below w.heap.size w w' := by
 have hu := Try.underlying46
 have HB := Aside0.mk (Below.refl w.heap.size w)
 have HK := Aside0.mk ((isKeyEq k).trans (congrArg some (decide_eq_false hk)))
 clear hk
 go_enter Try.func79, Try.ntmps79
 go_wp2_with (fail)
 refine (impl_isKey.calls k false _ HK.out).mono ?_
 rintro e w2 ⟨rfl, ⟨nd, rfl⟩⟩
 go_wp2_with (fail)
 go_ret2
 exact ⟨rfl, by repeat (first | exact HB.out | apply pw_below_drewN | apply below_alloc)⟩
theorem stOk_iff (s : S46) : stOk s = true ↔ (0 ≤ s.f1 ∧ s.f1 ≤ 31) ∧ (-9999 ≤ s.f2 ∧ s.f2 ≤ 9999) ∧ (s.f0 = 1 ∧ s.f2 = 0 ∨ s.f0 = 2 ∨ s.f0 = 3 ∨ s.f0 = 4) := by
 unfold stOk
 simp only [Bool.and_eq_true, Bool.or_eq_true, decide_eq_true_eq, and_assoc, or_assoc]
theorem stepOf_yes (s : S46) (w : World) (h : stOk s = true) :
 Calls Try.prog 79 #[.agg #[.int .i64 s.f0, .int .i64 s.f1, .int .i64 s.f2]] w fun e w' => e = .returned (.tuple #[.iface (stTy s) (stVal s), .bool true]) ∧ Below w.heap.size w w' := by
 obtain ⟨d, k, n⟩ := s
 obtain ⟨hk, hv, ⟨h1, h0⟩ | h⟩ := (stOk_iff _).1 h
 ·simp only at h1 h0 hk hv
  subst h1 h0
  exact stepOf_get k 0 w hk hv
 ·exact stepOf_num d k n w hk hv h
theorem stepOf_no (s : S46) (w : World) (h : stOk s = false) :
 Calls Try.prog 79 #[.agg #[.int .i64 s.f0, .int .i64 s.f1, .int .i64 s.f2]] w fun e w' => ∃ v, e = .returned (.tuple #[v, .bool false]) ∧ Below w.heap.size w w' := by
 obtain ⟨d, k, n⟩ := s
 have h' : ¬ stOk ⟨d, k, n⟩ = true := by rw [h]; decide
 rw [stOk_iff] at h'
 simp only at h' ⊢
 by_cases hk : 0 ≤ k ∧ k ≤ 31
 ·by_cases hv : -9999 ≤ n ∧ n ≤ 9999
  ·by_cases h1 : d = 1
   ·subst h1
    have hn : (n == 0) = false := beq_eq_false_iff_ne.mpr (fun hn => h' ⟨hk, hv, .inl ⟨rfl, hn⟩⟩)
    have := stepOf_get k n w hk hv
    rw [hn] at this
    exact this.mono fun e w' h => ⟨_, h⟩
   ·exact (stepOf_none d k n w hk hv (fun hd => by rcases hd with hd | hd; exact h1 hd; exact h' ⟨hk, hv, .inr hd⟩)).mono fun e w' h => ⟨_, h⟩
  ·exact (stepOf_noval d k n w hk hv).mono fun e w' h => ⟨_, h⟩
 ·exact (stepOf_nokey d k n w hk).mono fun e w' h => ⟨_, h⟩
theorem infoStep : (Try.prog.info? 89).map (fun i => (i.zero, i.size, i.bytes)) = some (some Value.nilIface, 1, 16) := by kernel_rfl
theorem step_take {l : List S46} {x : Nat} (h : x < l.length) : l.take (x + 1) = l.take x ++ [rd_T46 l (x : Int)] := by
 rw [List.take_succ_eq_append_getElem h]
 simp [rd_T46, List.getD_eq_getElem?_getD, List.getElem?_eq_getElem h]
theorem step_no {l : List S46} {x : Nat} (h : x < l.length) (hs : stOk (rd_T46 l (x : Int)) = false) : dealOk l = false := by
 have e : rd_T46 l (x : Int) = l[x] := by simp [rd_T46, List.getD_eq_getElem?_getD, List.getElem?_eq_getElem h]
 rw [e] at hs
 unfold dealOk
 rw [Bool.and_eq_false_iff]
 right
 rw [Bool.eq_false_iff]
 intro ha
 have := List.all_eq_true.1 ha l[x] (List.getElem_mem h)
 rw [hs] at this
 cases this
set_option maxHeartbeats 8000000 in
set_option maxRecDepth 100000 in
theorem stepsOf_any (A0 : Option Addr) (c0 : Nat) (l0 : List S46) (w : World) (hr0 : Kd.C k46 w A0 l0.length l0) (hc0 : l0.length ≤ c0) :
 Calls Try.prog 47 #[.slice A0 l0.length c0] w fun e w' => ∃ v : Value, e = .returned (.tuple #[v, .bool (dealOk l0)]) ∧ (dealOk l0 = true → Kd.R kStep 89 w' w.heap.size (fun _ => True) v l0) ∧ Below w.heap.size w w' := by
 have hu := Try.underlying46
 have HR := Aside0.mk hr0
 have HC := Aside0.mk hc0
 have HB := Aside0.mk (Below.refl w.heap.size w)
 clear hr0 hc0
 by_cases hl : 1 ≤ l0.length ∧ l0.length ≤ 6
 ·have HW := Aside0.mk ((withinEq (l0.length : Int) 1 6).trans (congrArg some (decide_eq_true (show (1 : Int) ≤ l0.length ∧ (l0.length : Int) ≤ 6 by omega))))
  have HL := Aside0.mk hl
  have hl6 : l0.length ≤ 6 := hl.2
  have hmk : ∀ W : World, (Instr.makeSlice 73 (.int .i64 0) (.int .i64 (l0.length : Int))).run Try.prog W = .ok (.slice (some ⟨W.heap.size, 0, none⟩) 0 l0.length) (W.alloc (.cells (madeCells #[Value.nilIface] l0.length) 89)) := by
   intro W
   obtain ⟨i0, hi, hzz⟩ := Option.map_eq_some_iff.1 infoStep
   simp only [Prod.mk.injEq] at hzz
   have := run_make (P := Try.prog) W 73 89 i0 _ Try.underlying73 hi hzz.1 .i64 .i64 0 (l0.length : Int) (by omega) (by omega) (by rw [hzz.2.2]; omega) (by omega)
   rw [hzz.2.1] at this
   simpa [Value.cells] using this
  clear hl
  go_enter Try.func47, Try.ntmps47
  go_wp2_with (fail)
  refine (impl_within.calls _ _ _ true _ HW.out).mono ?_
  rintro e w2 ⟨rfl, ⟨nd, rfl⟩⟩
  go_wp2_with (fail)
  generalize hV : (Value.slice (some ⟨w.heap.size, 0, none⟩) 0 l0.length) = v0
  go_loopw [4, 18] (fun v i wr => ∃ x : Nat, Aside0 (x ≤ l0.length) ∧ i = .int .i64 x ∧ Aside0 (∀ j : Nat, j < x → stOk (rd_T46 l0 (j : Int)) = true) ∧ Aside0 (Kd.R kStep 89 wr w.heap.size (fun _ => True) v (l0.take x)) ∧ Aside0 (Below w.heap.size w wr)) (fun _ i _ => l0.length - (intOf i).toNat)
  case atStart =>
   refine ⟨0, ⟨Nat.zero_le _⟩, rfl, ⟨fun j hj => absurd hj (by omega)⟩, ⟨?_⟩, ⟨by repeat (first | exact HB.out | apply pw_below_drewN | apply below_alloc)⟩⟩
   subst hV
   refine ⟨fun _ _ => trivial, [], ⟨by simp, .inr ⟨w.heap.size, l0.length, madeCells #[Value.nilIface] l0.length, rfl, Nat.le_refl _, ?_, by simp, by simp only [maxLen]; omega, by simp [size_madeCells, kStep, Kd.scalar], by simp⟩⟩, ?_⟩
   ·have := blk_new w (.cells (madeCells #[Value.nilIface] l0.length) 89)
    first | exact this | (exact blk_drewN this _) | simpa using this
   ·simpa using Reps.none _ _
  case round =>
   obtain ⟨x, HX, rfl, HP, HO, HB⟩ := hrel
   by_cases hlt : x < l0.length
   ·obtain ⟨ad, hA, hx0, hx1, hx2⟩ := at_T46 HR.out (x : Int) (by omega) (by omega)
    subst hA
    have hy0 := (HB.out.cell (World.block_lt_of_cell? w _ hx0)).trans hx0
    have hy1 := (HB.out.cell (World.block_lt_of_cell? w _ hx1)).trans hx1
    have hy2 := (HB.out.cell (World.block_lt_of_cell? w _ hx2)).trans hx2
    simp only [Int.toNat_natCast] at hy0 hy1 hy2
    have hdl : decide (x < l0.length) = true := decide_eq_true hlt
    have HT := Aside0.mk (step_take hlt)
    have HN := Aside0.mk (fun (hs : stOk (rd_T46 l0 (x : Int)) = false) => step_no hlt hs)
    clear hx0 hx1 hx2
    have HLT := Aside0.mk hlt
    generalize hS : rd_T46 l0 (x : Int) = s at hy0 hy1 hy2 HT HN
    have HS := Aside0.mk hS
    clear hS
    cases hs : stOk s with
    | true =>
     have HK := Aside0.mk hs
     clear hs
     go_wp2_with (fail)
     refine (stepOf_yes s _ HK.out).mono ?_
     rintro e w5 ⟨rfl, hb⟩
     have HB5 := Aside0.mk (below_step (below_alloc HB.out _) hb)
     have HO5 := Aside0.mk (Kd.R_below (Kd.R_below HO.out (below_alloc (Below.refl _ _) _)) hb)
     clear hb
     go_wp2_with (at_builtin; refine Kd.R_append kStep (w0 := w) w.heap.size rfl (.tmp 29) (.tmp 31) 73 89 .nilIface 16 rfl Try.underlying73 infoStep rfl (by decide) (by omega) u4 (l0.take x) s [.iface (stTy s) (stVal s)] (fun _ => True) (fun _ => False) rfl rfl rfl (fun _ hk => hk.elim) ?aF ?aO ?aB ?aS ?aL ?_; (case aF => exact fun _ _ => trivial); (case aO => exact HO5.out); (case aB => exact HB5.out); (case aS => exact HB5.out.size); (case aL => have := HL.out; simp; omega); intro v1 w7 ho hb7 hg hat; have HO7 := Aside0.mk ho; have HB7 := Aside0.mk hb7; clear ho hb7 hg hat)
     go_roundw
     case rel => exact ⟨x + 1, ⟨by have := HLT.out; omega⟩, by go_num, ⟨fun j hj => by
      by_cases hjx : j = x
      ·rw [hjx, HS.out]; exact HK.out
      ·exact HP.out j (by omega)⟩, ⟨by rw [HT.out]; exact HO7.out⟩, HB7⟩
     case measure => have := HLT.out; simp [intOf]; omega
    | false =>
     have HK := Aside0.mk hs
     have HD := Aside0.mk (HN.out hs)
     clear hs
     go_wp2_with (fail)
     refine (stepOf_no s _ HK.out).mono ?_
     rintro e w5 ⟨v, rfl, hb⟩
     have HB5 := Aside0.mk (below_step (below_alloc HB.out _) hb)
     clear hb
     go_wp2_with (fail)
     rw [HD.out]
     go_ret2
     exact ⟨_, rfl, fun h => (by cases h), HB5.out⟩
   ·have hd : dealOk l0 = true := by
     unfold dealOk
     rw [Bool.and_eq_true]
     refine ⟨decide_eq_true HL.out, List.all_eq_true.2 fun s hs => ?_⟩
     obtain ⟨j, hj, rfl⟩ := List.getElem_of_mem hs
     have := HP.out j (by have := HX.out; omega)
     simpa [rd_T46, List.getD_eq_getElem?_getD, List.getElem?_eq_getElem hj] using this
    have HD := Aside0.mk hd
    obtain rfl : x = l0.length := by have := HX.out; omega
    rw [List.take_length] at HO
    clear hd hlt
    go_wp2_with (fail)
    rw [HD.out]
    go_ret2
    exact ⟨_, rfl, fun _ => HO.out, HB.out⟩
 ·have HW := Aside0.mk ((withinEq (l0.length : Int) 1 6).trans (congrArg some (decide_eq_false (show ¬ ((1 : Int) ≤ l0.length ∧ (l0.length : Int) ≤ 6) by omega))))
  have HD := Aside0.mk (show dealOk l0 = false by unfold dealOk; rw [decide_eq_false hl]; rfl)
  clear hl
  go_enter Try.func47, Try.ntmps47
  go_wp2_with (fail)
  refine (impl_within.calls _ _ _ false _ HW.out).mono ?_
  rintro e w2 ⟨rfl, ⟨nd, rfl⟩⟩
  go_wp2_with (fail)
  rw [HD.out]
  go_ret2
  exact ⟨_, rfl, fun h => (by cases h), by repeat (first | exact HB.out | apply pw_below_drewN | apply below_alloc)⟩
def impl_DealOk.f (l0 : List (S46)) : Option (Bool) := some (dealOk l0)
set_option maxHeartbeats 8000000 in
set_option maxRecDepth 100000 in
theorem impl_DealOk.calls (A0 : Option Addr) (c0 : Nat) (l0 : List (S46)) (r : Bool) (w : World) (hr0 : Kd.C k46 w A0 l0.length l0) (hc0 : l0.length ≤ c0) (h : impl_DealOk.f l0 = some r) :
 Calls Try.prog 17 #[.slice A0 l0.length c0] w fun e w' => e = .returned (.bool r) ∧ Below w.heap.size w w' := by
 have HE := Aside0.mk (show dealOk l0 = r from Option.some.inj h)
 have HR := Aside0.mk hr0
 have HC := Aside0.mk hc0
 clear h hr0 hc0
 go_enter Try.func17, Try.ntmps17
 go_wp2_with (fail)
 refine (stepsOf_any A0 c0 l0 _ HR.out HC.out).mono ?_
 rintro e w1 ⟨v, rfl, _, hb⟩
 have HB := Aside0.mk hb
 clear hb
 rw [HE.out]
 go_wp2_with (fail)
 go_ret
 exact ⟨rfl, HB.out⟩

end Go.Proofs.Ytdjiclhjficgfaa.PX
