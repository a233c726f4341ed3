import Derived.Test.YtjldpnhlegbjkaaPAx0
import Derived.Test.YtjldpnhlegbjkaaPAx12
import Derived.Test.YtjldpnhlegbjkaaPAx13
namespace Go.Proofs.Ytjldpnhlegbjkaa.PA
open Go.RowKit Go.Proofs.YtjldpnhlegbjkaaW.PrintWords Go.Proofs.YtjldpnhlegbjkaaW.PrintLast Go.Proofs.YtjldpnhlegbjkaaW.PrintMore
attribute [local go_sem] max2_int min2_int max_two min_two max_three min_three max_four min_four
set_option linter.unusedVariables false
set_option linter.unusedSimpArgs false

mutual
def spec_LockOk.j0 : Nat → Bool → Int → List (S45) → List (S45) → Option (Bool)
 | 0, _, _, _, _ => none
 | k + 1, x19, x170002000, x170002001, x170002002 => if x19 = true then (some false) else (spec_LockOk.l0 k 0 x170002000 x170002001 x170002002)
def spec_LockOk.l0 : Nat → Int → Int → List (S45) → List (S45) → Option (Bool)
 | 0, _, _, _, _ => none
 | k + 1, x3, x170002000, x170002001, x170002002 => if x3 < (x170002001.length : Int) then (if 0 ≤ x3 then ((spec_l11HoldOk.f ((rd_T45 x170002001 x3).f0) ((rd_T45 x170002001 x3).f1) ((rd_T45 x170002001 x3).f2) ((rd_T45 x170002001 x3).f3)).bind fun t170004 => (if t170004 = true then (if x3 > 0 then (if 0 ≤ (wrap64 (x3 - 1)) then (if (wrap64 (x3 - 1)) < (x170002001.length : Int) then (if ((rd_T45 x170002001 (wrap64 (x3 - 1))).f0) ≥ ((rd_T45 x170002001 x3).f0) then (some false) else (if 0 < (x170002001.length : Int) then ((spec_l11Meet.f ((rd_T45 x170002001 0).f0) ((rd_T45 x170002001 0).f1) ((rd_T45 x170002001 0).f2) ((rd_T45 x170002001 0).f3) ((rd_T45 x170002001 x3).f0) ((rd_T45 x170002001 x3).f1) ((rd_T45 x170002001 x3).f2) ((rd_T45 x170002001 x3).f3)).bind fun t170009 => (if t170009 = true then (some false) else (spec_LockOk.l0 k (wrap64 (x3 + 1)) x170002000 x170002001 x170002002))) else (none))) else (none)) else (none)) else (spec_LockOk.l0 k (wrap64 (x3 + 1)) x170002000 x170002001 x170002002)) else (some false))) else (none)) else (spec_LockOk.l1 k 0 x170002000 x170002001 x170002002)
def spec_LockOk.l1 : Nat → Int → Int → List (S45) → List (S45) → Option (Bool)
 | 0, _, _, _, _ => none
 | k + 1, x4, x170002000, x170002001, x170002002 => if x4 < (x170002002.length : Int) then (if 0 ≤ x4 then ((spec_l11HoldOk.f ((rd_T45 x170002002 x4).f0) ((rd_T45 x170002002 x4).f1) ((rd_T45 x170002002 x4).f2) ((rd_T45 x170002002 x4).f3)).bind fun t170011 => (if t170011 = true then (if (rd_T45 x170002002 x4).f3 = true then (spec_LockOk.j3 k x4 true x170002000 x170002001 x170002002) else (if x4 > 0 then (if 0 ≤ (wrap64 (x4 - 1)) then (if (wrap64 (x4 - 1)) < (x170002002.length : Int) then (spec_LockOk.j3 k x4 (decide (((rd_T45 x170002002 (wrap64 (x4 - 1))).f0) ≥ ((rd_T45 x170002002 x4).f0))) x170002000 x170002001 x170002002) else (none)) else (none)) else (spec_LockOk.j3 k x4 false x170002000 x170002001 x170002002))) else (spec_LockOk.j3 k x4 true x170002000 x170002001 x170002002))) else (none)) else (some true)
def spec_LockOk.j3 : Nat → Int → Bool → Int → List (S45) → List (S45) → Option (Bool)
 | 0, _, _, _, _, _ => none
 | k + 1, x4, x107, x170002000, x170002001, x170002002 => if x107 = true then (some false) else (spec_LockOk.l2 k x4 0 x170002000 x170002001 x170002002)
def spec_LockOk.l2 : Nat → Int → Int → Int → List (S45) → List (S45) → Option (Bool)
 | 0, _, _, _, _, _ => none
 | k + 1, x4, x5, x170002000, x170002001, x170002002 => if x5 < (x170002001.length : Int) then (if 0 ≤ x5 then (if 0 ≤ x4 then (if x4 < (x170002002.length : Int) then (if ((rd_T45 x170002001 x5).f0) = ((rd_T45 x170002002 x4).f0) then (some false) else (spec_LockOk.l2 k x4 (wrap64 (x5 + 1)) x170002000 x170002001 x170002002)) else (none)) else (none)) else (none)) else (spec_LockOk.l1 k (wrap64 (x4 + 1)) x170002000 x170002001 x170002002)
end
def spec_LockOk.f (k : Nat) (a0_0 : Int) (l0_1 : List (S45)) (l0_2 : List (S45)) : Option (Bool) := (spec_l6In.f a0_0 0 7).bind fun t170002 => (if t170002 = true then (spec_LockOk.j0 k (decide ((wrap64 ((l0_1.length : Int) + (l0_2.length : Int))) > 16)) a0_0 l0_1 l0_2) else (spec_LockOk.j0 k true a0_0 l0_1 l0_2))
theorem spec_LockOk.mono_l : ∀ k, (∀ y0 y1 y2 y3, LeO (spec_LockOk.j0 k y0 y1 y2 y3) (spec_LockOk.j0 (k + 1) y0 y1 y2 y3)) ∧ (∀ y0 y1 y2 y3, LeO (spec_LockOk.l0 k y0 y1 y2 y3) (spec_LockOk.l0 (k + 1) y0 y1 y2 y3)) ∧ (∀ y0 y1 y2 y3, LeO (spec_LockOk.l1 k y0 y1 y2 y3) (spec_LockOk.l1 (k + 1) y0 y1 y2 y3)) ∧ (∀ y0 y1 y2 y3 y4, LeO (spec_LockOk.j3 k y0 y1 y2 y3 y4) (spec_LockOk.j3 (k + 1) y0 y1 y2 y3 y4)) ∧ (∀ y0 y1 y2 y3 y4, LeO (spec_LockOk.l2 k y0 y1 y2 y3 y4) (spec_LockOk.l2 (k + 1) y0 y1 y2 y3 y4))
 | 0 => ⟨fun _ _ _ _ r h => by simp [spec_LockOk.j0] at h, fun _ _ _ _ r h => by simp [spec_LockOk.l0] at h, fun _ _ _ _ r h => by simp [spec_LockOk.l1] at h, fun _ _ _ _ _ r h => by simp [spec_LockOk.j3] at h, fun _ _ _ _ _ r h => by simp [spec_LockOk.l2] at h⟩
 | k + 1 => by
  obtain ⟨ih0, ih1, ih2, ih3, ih4⟩ := spec_LockOk.mono_l k
  refine ⟨?_, ?_, ?_, ?_, ?_⟩
  ·intro y0 y1 y2 y3
   unfold spec_LockOk.j0
   repeat' first
   | (with_reducible exact ih0 _ _ _ _)
   | (with_reducible exact ih1 _ _ _ _)
   | (with_reducible exact ih2 _ _ _ _)
   | (with_reducible exact ih3 _ _ _ _ _)
   | (with_reducible exact ih4 _ _ _ _ _)
   | (with_reducible exact LeO.refl _)
   | (with_reducible exact LeO.none _)
   | (with_reducible refine LeO.ite ?_ ?_)
   | (with_reducible refine LeO.bind ?_ (fun _ => ?_))
   | exact ih0 _ _ _ _
   | exact ih1 _ _ _ _
   | exact ih2 _ _ _ _
   | exact ih3 _ _ _ _ _
   | exact ih4 _ _ _ _ _
   | exact LeO.none _
   | refine LeO.ite ?_ ?_
   | refine LeO.bind ?_ (fun _ => ?_)
  ·intro y0 y1 y2 y3
   unfold spec_LockOk.l0
   repeat' first
   | (with_reducible exact ih0 _ _ _ _)
   | (with_reducible exact ih1 _ _ _ _)
   | (with_reducible exact ih2 _ _ _ _)
   | (with_reducible exact ih3 _ _ _ _ _)
   | (with_reducible exact ih4 _ _ _ _ _)
   | (with_reducible exact LeO.refl _)
   | (with_reducible exact LeO.none _)
   | (with_reducible refine LeO.ite ?_ ?_)
   | (with_reducible refine LeO.bind ?_ (fun _ => ?_))
   | exact ih0 _ _ _ _
   | exact ih1 _ _ _ _
   | exact ih2 _ _ _ _
   | exact ih3 _ _ _ _ _
   | exact ih4 _ _ _ _ _
   | exact LeO.none _
   | refine LeO.ite ?_ ?_
   | refine LeO.bind ?_ (fun _ => ?_)
  ·intro y0 y1 y2 y3
   unfold spec_LockOk.l1
   repeat' first
   | (with_reducible exact ih0 _ _ _ _)
   | (with_reducible exact ih1 _ _ _ _)
   | (with_reducible exact ih2 _ _ _ _)
   | (with_reducible exact ih3 _ _ _ _ _)
   | (with_reducible exact ih4 _ _ _ _ _)
   | (with_reducible exact LeO.refl _)
   | (with_reducible exact LeO.none _)
   | (with_reducible refine LeO.ite ?_ ?_)
   | (with_reducible refine LeO.bind ?_ (fun _ => ?_))
   | exact ih0 _ _ _ _
   | exact ih1 _ _ _ _
   | exact ih2 _ _ _ _
   | exact ih3 _ _ _ _ _
   | exact ih4 _ _ _ _ _
   | exact LeO.none _
   | refine LeO.ite ?_ ?_
   | refine LeO.bind ?_ (fun _ => ?_)
  ·intro y0 y1 y2 y3 y4
   unfold spec_LockOk.j3
   repeat' first
   | (with_reducible exact ih0 _ _ _ _)
   | (with_reducible exact ih1 _ _ _ _)
   | (with_reducible exact ih2 _ _ _ _)
   | (with_reducible exact ih3 _ _ _ _ _)
   | (with_reducible exact ih4 _ _ _ _ _)
   | (with_reducible exact LeO.refl _)
   | (with_reducible exact LeO.none _)
   | (with_reducible refine LeO.ite ?_ ?_)
   | (with_reducible refine LeO.bind ?_ (fun _ => ?_))
   | exact ih0 _ _ _ _
   | exact ih1 _ _ _ _
   | exact ih2 _ _ _ _
   | exact ih3 _ _ _ _ _
   | exact ih4 _ _ _ _ _
   | exact LeO.none _
   | refine LeO.ite ?_ ?_
   | refine LeO.bind ?_ (fun _ => ?_)
  ·intro y0 y1 y2 y3 y4
   unfold spec_LockOk.l2
   repeat' first
   | (with_reducible exact ih0 _ _ _ _)
   | (with_reducible exact ih1 _ _ _ _)
   | (with_reducible exact ih2 _ _ _ _)
   | (with_reducible exact ih3 _ _ _ _ _)
   | (with_reducible exact ih4 _ _ _ _ _)
   | (with_reducible exact LeO.refl _)
   | (with_reducible exact LeO.none _)
   | (with_reducible refine LeO.ite ?_ ?_)
   | (with_reducible refine LeO.bind ?_ (fun _ => ?_))
   | exact ih0 _ _ _ _
   | exact ih1 _ _ _ _
   | exact ih2 _ _ _ _
   | exact ih3 _ _ _ _ _
   | exact ih4 _ _ _ _ _
   | exact LeO.none _
   | refine LeO.ite ?_ ?_
   | refine LeO.bind ?_ (fun _ => ?_)
theorem spec_LockOk.mono : ∀ a0 a1 a2 k, LeO (spec_LockOk.f k a0 a1 a2) (spec_LockOk.f (k + 1) a0 a1 a2) := by
 intro a0 a1 a2 k
 obtain ⟨ih0, ih1, ih2, ih3, ih4⟩ := spec_LockOk.mono_l k
 unfold spec_LockOk.f
 repeat' first
  | (with_reducible exact ih0 _ _ _ _)
  | (with_reducible exact ih1 _ _ _ _)
  | (with_reducible exact ih2 _ _ _ _)
  | (with_reducible exact ih3 _ _ _ _ _)
  | (with_reducible exact ih4 _ _ _ _ _)
  | (with_reducible exact LeO.refl _)
  | (with_reducible exact LeO.none _)
  | (with_reducible refine LeO.ite ?_ ?_)
  | (with_reducible refine LeO.bind ?_ (fun _ => ?_))
  | exact ih0 _ _ _ _
  | exact ih1 _ _ _ _
  | exact ih2 _ _ _ _
  | exact ih3 _ _ _ _ _
  | exact ih4 _ _ _ _ _
  | exact LeO.none _
  | refine LeO.ite ?_ ?_
  | refine LeO.bind ?_ (fun _ => ?_)
def spec_LockOk.T6 : Bool × List (List Nat × List Nat) := (true, [([], []), ([0], [0]), ([], []), ([1, 2], [1, 2]), ([3], [3]), ([4], [4]), ([5], [5]), ([6, 5], [6]), ([7], [7]), ([8, 7], [7, 8]), ([9, 7, 7], [7, 9]), ([10], [10]), ([11, 10], [10, 11]), ([10], [10]), ([13, 10], [10, 13]), ([12, 14, 10], [10, 12, 14]), ([15, 10], [10, 15]), ([16, 10], [10, 16]), ([10], [10]), ([18, 10], [10, 18]), ([10], [10]), ([19, 20, 10], [10, 19, 20]), ([21, 10], [10, 21]), ([22, 10], [10, 22]), ([17, 23, 10], [10, 17, 23]), ([24, 10, 10], [10, 24]), ([25], [25]), ([26, 25], [25, 26]), ([27, 25], [25, 27]), ([28, 25], [25, 28]), ([25], [25]), ([30, 25], [25, 30]), ([25], [25]), ([31, 32, 25], [25, 31, 32]), ([33, 25], [25, 33]), ([29, 34, 25, 25], [25, 29, 34]), ([25, 35, 10], [10, 25, 35]), ([10, 36, 7], [7, 10, 36]), ([7, 37], [7, 37])])
def spec_LockOk.B6 : List Nat := [0, 1, 0, 7, 15, 31, 63, 127, 255, 511, 1023, 2047, 4095, 2047, 10239, 32767, 65535, 131071, 2047, 264191, 2047, 1837055, 3934207, 8128511, 16777215, 33554431, 67108863, 134217727, 268435455, 536870911, 67108863, 1140850687, 67108863, 7583301631, 16173236223, 34359738367, 68719476735, 137438953471, 274877906943]
theorem spec_LockOk.tab6 : rtab .any (opsOf Try.f16 6) = spec_LockOk.T6 := by kernel_rfl
theorem spec_LockOk.bits6 : waitsOk spec_LockOk.T6.2 spec_LockOk.B6 = true := by kernel_rfl
def spec_LockOk.T11 : Bool × List (List Nat × List Nat) := (true, [([], []), ([0], [0]), ([], []), ([1, 2], [1, 2]), ([3], [3]), ([4], [4]), ([5], [5]), ([6, 5], [6]), ([7], [7]), ([8, 7], [7, 8]), ([7], [7]), ([9, 10, 7], [7, 9, 10]), ([11, 7], [7, 11]), ([12, 7], [7, 12]), ([7, 13], [7, 13]), ([14, 7], [14]), ([15], [15]), ([16, 15], [15, 16]), ([17, 15, 15], [15, 17]), ([18], [18]), ([19, 18], [18, 19]), ([18], [18]), ([21, 18], [18, 21]), ([20, 22, 18], [18, 20, 22]), ([23, 18], [18, 23]), ([24, 18], [18, 24]), ([18], [18]), ([26, 18], [18, 26]), ([18], [18]), ([27, 28, 18], [18, 27, 28]), ([29, 18], [18, 29]), ([30, 18], [18, 30]), ([25, 31, 18], [18, 25, 31]), ([18, 32, 15], [15, 18, 32]), ([15, 33], [15, 33])])
def spec_LockOk.B11 : List Nat := [0, 1, 0, 7, 15, 31, 63, 127, 255, 511, 255, 2047, 4095, 8191, 16383, 32767, 65535, 131071, 262143, 524287, 1048575, 524287, 2621439, 8388607, 16777215, 33554431, 524287, 67633151, 524287, 470286335, 1007157247, 2080899071, 4294967295, 8589934591, 17179869183]
theorem spec_LockOk.tab11 : rtab .any (opsOf Try.f16 11) = spec_LockOk.T11 := by kernel_rfl
theorem spec_LockOk.bits11 : waitsOk spec_LockOk.T11.2 spec_LockOk.B11 = true := by kernel_rfl
def spec_LockOk.T16 : Bool × List (List Nat × List Nat) := (true, [([], []), ([0], [0]), ([], []), ([1, 2], [1, 2]), ([3], [3]), ([4], [4]), ([], []), ([6], [6]), ([], []), ([7, 8], [7, 8]), ([9], [9]), ([10], [10]), ([5, 11], [5, 11])])
def spec_LockOk.B16 : List Nat := [0, 1, 0, 7, 15, 31, 0, 64, 0, 448, 960, 1984, 4095]
theorem spec_LockOk.tab16 : rtab .any (opsOf Try.f16 16) = spec_LockOk.T16 := by kernel_rfl
theorem spec_LockOk.bits16 : waitsOk spec_LockOk.T16.2 spec_LockOk.B16 = true := by kernel_rfl
set_option maxHeartbeats 8000000 in
set_option maxRecDepth 100000 in
theorem spec_LockOk.calls (k : Nat) (a0_0 : Int) (A0_1 : Option Addr) (c0_1 : Nat) (l0_1 : List (S45)) (A0_2 : Option Addr) (c0_2 : Nat) (l0_2 : List (S45)) (r : Bool) (w : World) (hr0_1 : Kd.C k45 w A0_1 l0_1.length l0_1) (hc0_1 : l0_1.length ≤ c0_1) (hr0_2 : Kd.C k45 w A0_2 l0_2.length l0_2) (hc0_2 : l0_2.length ≤ c0_2) (h : spec_LockOk.f k a0_0 l0_1 l0_2 = some r) :
 Calls Try.prog 16 #[.agg #[.int .i64 a0_0, .slice A0_1 l0_1.length c0_1, .slice A0_2 l0_2.length c0_2]] w fun e w' => e = .returned (.bool r) ∧ Below w.heap.size w w' := by
 have hu29 := Try.underlying29
 have hu45 := Try.underlying45
 have HR0_1 := Aside0.mk hr0_1
 have HC0_1 := Aside0.mk hc0_1
 clear hr0_1 hc0_1
 have HR0_2 := Aside0.mk hr0_2
 have HC0_2 := Aside0.mk hc0_2
 clear hr0_2 hc0_2
 have HB := Aside0.mk (Below.refl w.heap.size w)
 have H : ((spec_l6In.f a0_0 0 7).bind fun jbs => (if jbs = true then (spec_LockOk.j0 k (decide ((wrap64 ((l0_1.length : Int) + (l0_2.length : Int))) > 16)) a0_0 l0_1 l0_2) else (spec_LockOk.j0 k true a0_0 l0_1 l0_2))) = some r := h
 clear h
 have HC2 := Aside0.mk H
 clear H
 go_enter Try.func16, Try.ntmps16
 go_upto_region 1 with (first | ((with_reducible refine gate_dst (N := 1) rfl ?_); (try (refine gate_guard (by rfl) ?_; dsimp only)); refine box_event ?hg (N := 1) ?hd (cs := #[.int .i64 a0_0, .slice A0_1 l0_1.length c0_1, .slice A0_2 l0_2.length c0_2]) (t := 29) ?hr ?_; (case hd => rfl); (case hg => rfl); (case hr => first | (go_simp; done) | (go_simp; rfl)); intro jc hg w3 hbox hb; have n0_ := Aside0.mk (below_step (hb_ HB.out) hb); have n1_ := Aside0.mk (hbox); have n2_ := Aside0.mk ((by rw [hg]; exact (below_size (hb_ HB.out)) : w.heap.size ≤ jc)); have n3_ := Aside0.mk ((by rw [hg]; exact (below_size (hb_ HB.out)) : w.heap.size ≤ jc)); clear HB; have HB := n0_; have ja := n1_; have jbN := n2_; have jaF := n3_; clear n0_ n1_ n2_ n3_; clear hb hbox hg))
 (try simp only [Act.put, List.setIfInBounds_toArray, List.set_cons_zero, List.set_cons_succ])
 go_cut [19] (fun v19 wc => ∃ (kq : Nat) (x19_1 : Bool), v19 = .bool x19_1 ∧ Aside0 (spec_LockOk.j0 kq x19_1 a0_0 l0_1 l0_2 = some r) ∧ Aside0 (kq ≤ k) ∧ Aside0 (wc.heap[jc]? = some (.cells #[.int .i64 a0_0, (.slice A0_1 l0_1.length c0_1), (.slice A0_2 l0_2.length c0_2)] 29 (0, 0))) ∧ Aside0 (Below w.heap.size w wc))
 case first =>
  have H := HC2.out
  clear HC2
  replace H := Option.bind_eq_some_iff.mp H
  obtain ⟨jbs, A40, H⟩ := H
  replace H : (if jbs = true then (spec_LockOk.j0 k (decide ((wrap64 ((l0_1.length : Int) + (l0_2.length : Int))) > 16)) a0_0 l0_1 l0_2) else (spec_LockOk.j0 k true a0_0 l0_1 l0_2)) = some r := H
  have A4 := Aside0.mk A40
  clear A40
  by_cases c5 : jbs = true
  ·subst c5
   have H1 : (spec_LockOk.j0 k (decide ((wrap64 ((l0_1.length : Int) + (l0_2.length : Int))) > 16)) a0_0 l0_1 l0_2) = some r := by rw [if_pos rfl] at H; exact H
   clear H
   have H := H1
   clear H1
   have H' := Aside0.mk H
   clear H
   have hcz6_0 : w3.cell? ⟨jc, 0, none⟩ = some (.int .i64 a0_0) := (blk_cell ja.out 0).trans rfl
   have hcz6_1 : w3.cell? ⟨jc, 1, none⟩ = some (.slice A0_1 l0_1.length c0_1) := (blk_cell ja.out 1).trans rfl
   have hcz6_2 : w3.cell? ⟨jc, 2, none⟩ = some (.slice A0_2 l0_2.length c0_2) := (blk_cell ja.out 2).trans rfl
   have hfz6_0 := blk_frozen ja.out 0
   have hfz6_1 := blk_frozen ja.out 1
   have hfz6_2 := blk_frozen ja.out 2
   go_wp2_with (first | ((with_reducible refine gate_callee (f := 38) rfl ?_); refine goesL_ (some 8) rfl rfl Try.func38 (by kernel_rfl) rfl #[.int .i64 a0_0, .int .i64 0, .int .i64 7] rfl (by (try simp only [List.map_toArray, List.map_cons, List.map_nil]); first | done | rfl | (simp only [List.length_drop, List.length_take]; rfl)) ?_; (with_reducible refine (spec_l6In.calls a0_0 0 7 true _ A4.out).mono ?_); rintro e w' ⟨rfl, ⟨nd, rfl⟩⟩; refine ⟨_, rfl, ?_⟩))
   go_meet
   case rel => exact ⟨_, (decide ((wrap64 ((l0_1.length : Int) + (l0_2.length : Int))) > 16)), (by first | rfl | (simp; done) | (simp [*]; done)), H', ⟨by first | omega | exact Nat.le_refl _⟩, ⟨bk_ ja.out⟩, ⟨hb_ HB.out⟩⟩
  ·replace c5 := Bool.eq_false_iff.mpr c5
   subst c5
   have H1 : (spec_LockOk.j0 k true a0_0 l0_1 l0_2) = some r := by rw [if_neg (show ¬ (false = true) by decide)] at H; exact H
   clear H
   have H := H1
   clear H1
   have H' := Aside0.mk H
   clear H
   have hcz7_0 : w3.cell? ⟨jc, 0, none⟩ = some (.int .i64 a0_0) := (blk_cell ja.out 0).trans rfl
   have hcz7_1 : w3.cell? ⟨jc, 1, none⟩ = some (.slice A0_1 l0_1.length c0_1) := (blk_cell ja.out 1).trans rfl
   have hcz7_2 : w3.cell? ⟨jc, 2, none⟩ = some (.slice A0_2 l0_2.length c0_2) := (blk_cell ja.out 2).trans rfl
   have hfz7_0 := blk_frozen ja.out 0
   have hfz7_1 := blk_frozen ja.out 1
   have hfz7_2 := blk_frozen ja.out 2
   go_wp2_with (first | ((with_reducible refine gate_callee (f := 38) rfl ?_); refine goesL_ (some 8) rfl rfl Try.func38 (by kernel_rfl) rfl #[.int .i64 a0_0, .int .i64 0, .int .i64 7] rfl (by (try simp only [List.map_toArray, List.map_cons, List.map_nil]); first | done | rfl | (simp only [List.length_drop, List.length_take]; rfl)) ?_; (with_reducible refine (spec_l6In.calls a0_0 0 7 false _ A4.out).mono ?_); rintro e w' ⟨rfl, ⟨nd, rfl⟩⟩; refine ⟨_, rfl, ?_⟩))
   go_meet
   case rel => exact ⟨_, (true), (by first | rfl | (simp; done) | (simp [*]; done)), H', ⟨by first | omega | exact Nat.le_refl _⟩, ⟨bk_ ja.out⟩, ⟨hb_ HB.out⟩⟩
 case rest =>
  clear HC2
  try clear c1
  try clear p2
  try clear c3
  try clear c5
  try clear p6
  try clear hcz6_0
  try clear hcz6_1
  try clear hcz6_2
  try clear hcz7_0
  try clear hcz7_1
  try clear hcz7_2
  try clear hfz6_0
  try clear hfz6_1
  try clear hfz6_2
  try clear hfz7_0
  try clear hfz7_1
  try clear hfz7_2
  obtain ⟨kq, x19_1, rfl, HA, HJ1, ja, HB⟩ := hcut
  cases kq with
  | zero => exact absurd HA.out (by simp [spec_LockOk.j0])
  | succ kj1 =>
   have H := HA.out
   clear HA
   simp only [spec_LockOk.j0] at H
   by_cases c8 : x19_1 = true
   ·subst c8
    have H1 : (some false) = some r := by rw [if_pos rfl] at H; exact H
    clear H
    have H := H1
    clear H1
    obtain rfl := Option.some.inj H
    go_wp2
    go_ret
    exact ⟨by first | rfl | (simp [errW_none, errW_some] <;> rfl) | (simp [*, errW_none, errW_some] <;> rfl), by repeat (first | (with_reducible first | exact HB.out | apply below_alloc | apply pw_below_drewN | apply below_drew1 | refine below_set ?_ jaF.out) | exact HB.out)⟩
   ·replace c8 := Bool.eq_false_iff.mpr c8
    subst c8
    have H1 : (spec_LockOk.l0 kj1 0 a0_0 l0_1 l0_2) = some r := by rw [if_neg (show ¬ (false = true) by decide)] at H; exact H
    clear H
    have H := H1
    clear H1
    have H' := Aside0.mk H
    clear H
    go_wp2
    go_loopg [3] kj1 (fun kq v3 w' => ∃ (x3_2 : Int), v3 = .int .i64 x3_2 ∧ Aside0 (spec_LockOk.l0 kq x3_2 a0_0 l0_1 l0_2 = some r) ∧ Aside0 (kq ≤ kj1) ∧ Aside0 (w'.heap[jc]? = some (.cells #[.int .i64 a0_0, (.slice A0_1 l0_1.length c0_1), (.slice A0_2 l0_2.length c0_2)] 29 (0, 0))) ∧ Aside0 (Below w.heap.size w w'))
    case atStart => exact ⟨(0), (by first | rfl | (simp; done) | (simp [*]; done)), H', ⟨Nat.le_refl _⟩, ⟨bk_ ja.out⟩, ⟨hb_ HB.out⟩⟩
    case round =>
     clear H'
     try clear c1
     try clear p2
     try clear c3
     try clear c5
     try clear p6
     try clear c8
     try clear hcz6_0
     try clear hcz6_1
     try clear hcz6_2
     try clear hcz7_0
     try clear hcz7_1
     try clear hcz7_2
     try clear hfz6_0
     try clear hfz6_1
     try clear hfz6_2
     try clear hfz7_0
     try clear hfz7_1
     try clear hfz7_2
     try clear p2
     try clear p6
     obtain ⟨x3_2, rfl, HA, HK2, ja, HB⟩ := hrel
     cases gk with
     | zero => exact absurd HA.out (by simp [spec_LockOk.l0])
     | succ k2 =>
      have H := HA.out
      clear HA
      simp only [spec_LockOk.l0] at H
      by_cases c9 : x3_2 < (l0_1.length : Int)
      ·rw [if_pos c9] at H
       have c9b0 : decide (x3_2 < (l0_1.length : Int)) = true := decide_eq_true c9
       clear c9
       by_cases c10 : 0 ≤ x3_2
       ·rw [if_pos c10] at H
        have c10b0 : decide (0 ≤ x3_2) = true := decide_eq_true c10
        clear c10
        replace H := Option.bind_eq_some_iff.mp H
        obtain ⟨jbF, A110, H⟩ := H
        replace H : (if jbF = true then (if x3_2 > 0 then (if 0 ≤ (wrap64 (x3_2 - 1)) then (if (wrap64 (x3_2 - 1)) < (l0_1.length : Int) then (if ((rd_T45 l0_1 (wrap64 (x3_2 - 1))).f0) ≥ ((rd_T45 l0_1 x3_2).f0) then (some false) else (if 0 < (l0_1.length : Int) then ((spec_l11Meet.f ((rd_T45 l0_1 0).f0) ((rd_T45 l0_1 0).f1) ((rd_T45 l0_1 0).f2) ((rd_T45 l0_1 0).f3) ((rd_T45 l0_1 x3_2).f0) ((rd_T45 l0_1 x3_2).f1) ((rd_T45 l0_1 x3_2).f2) ((rd_T45 l0_1 x3_2).f3)).bind fun jaE => (if jaE = true then (some false) else (spec_LockOk.l0 k2 (wrap64 (x3_2 + 1)) a0_0 l0_1 l0_2))) else (none))) else (none)) else (none)) else (spec_LockOk.l0 k2 (wrap64 (x3_2 + 1)) a0_0 l0_1 l0_2)) else (some false)) = some r := H
        have A11 := Aside0.mk A110
        clear A110
        by_cases c12 : jbF = true
        ·subst c12
         have H1 : (if x3_2 > 0 then (if 0 ≤ (wrap64 (x3_2 - 1)) then (if (wrap64 (x3_2 - 1)) < (l0_1.length : Int) then (if ((rd_T45 l0_1 (wrap64 (x3_2 - 1))).f0) ≥ ((rd_T45 l0_1 x3_2).f0) then (some false) else (if 0 < (l0_1.length : Int) then ((spec_l11Meet.f ((rd_T45 l0_1 0).f0) ((rd_T45 l0_1 0).f1) ((rd_T45 l0_1 0).f2) ((rd_T45 l0_1 0).f3) ((rd_T45 l0_1 x3_2).f0) ((rd_T45 l0_1 x3_2).f1) ((rd_T45 l0_1 x3_2).f2) ((rd_T45 l0_1 x3_2).f3)).bind fun jaE => (if jaE = true then (some false) else (spec_LockOk.l0 k2 (wrap64 (x3_2 + 1)) a0_0 l0_1 l0_2))) else (none))) else (none)) else (none)) else (spec_LockOk.l0 k2 (wrap64 (x3_2 + 1)) a0_0 l0_1 l0_2)) = some r := by rw [if_pos rfl] at H; exact H
         clear H
         have H := H1
         clear H1
         by_cases c13 : x3_2 > 0
         ·rw [if_pos c13] at H
          have c13b0 : decide (0 < x3_2) = true := decide_eq_true c13
          clear c13
          obtain ⟨ji14, hji14⟩ : ∃ j_ : Int, (wrap64 (x3_2 - 1)) = j_ := ⟨_, rfl⟩
          replace H : (if 0 ≤ (ji14) then (if (ji14) < (l0_1.length : Int) then (if ((rd_T45 l0_1 (ji14)).f0) ≥ ((rd_T45 l0_1 x3_2).f0) then (some false) else (if 0 < (l0_1.length : Int) then ((spec_l11Meet.f ((rd_T45 l0_1 0).f0) ((rd_T45 l0_1 0).f1) ((rd_T45 l0_1 0).f2) ((rd_T45 l0_1 0).f3) ((rd_T45 l0_1 x3_2).f0) ((rd_T45 l0_1 x3_2).f1) ((rd_T45 l0_1 x3_2).f2) ((rd_T45 l0_1 x3_2).f3)).bind fun jaE => (if jaE = true then (some false) else (spec_LockOk.l0 k2 (wrap64 (x3_2 + 1)) a0_0 l0_1 l0_2))) else (none))) else (none)) else (none)) = some r := by first | (rw [hji14] at H; exact H) | (simp only [hji14] at H ⊢; exact H)
          (try rw [hji14] at A11)
          have hji14w : (IntKind.i64.wrap (x3_2 - 1)) = ji14 := (i64_w _).trans hji14
          by_cases c15 : 0 ≤ (ji14)
          ·rw [if_pos c15] at H
           have c15b0 : decide (0 ≤ (ji14)) = true := decide_eq_true c15
           clear c15
           by_cases c16 : (ji14) < (l0_1.length : Int)
           ·rw [if_pos c16] at H
            have c16b0 : decide ((ji14) < (l0_1.length : Int)) = true := decide_eq_true c16
            clear c16
            by_cases c17 : ((rd_T45 l0_1 (ji14)).f0) ≥ ((rd_T45 l0_1 x3_2).f0)
            ·rw [if_pos c17] at H
             have c17b0 : decide (((rd_T45 l0_1 x3_2).f0) ≤ ((rd_T45 l0_1 (ji14)).f0)) = true := decide_eq_true c17
             clear c17
             obtain rfl := Option.some.inj H
             have hcz18_0 : wr.cell? ⟨jc, 0, none⟩ = some (.int .i64 a0_0) := (blk_cell ja.out 0).trans rfl
             have hcz18_1 : wr.cell? ⟨jc, 1, none⟩ = some (.slice A0_1 l0_1.length c0_1) := (blk_cell ja.out 1).trans rfl
             have hcz18_2 : wr.cell? ⟨jc, 2, none⟩ = some (.slice A0_2 l0_2.length c0_2) := (blk_cell ja.out 2).trans rfl
             have hfz18_0 := blk_frozen ja.out 0
             have hfz18_1 := blk_frozen ja.out 1
             have hfz18_2 := blk_frozen ja.out 2
             try go_wp2
             have n0_ := Aside0.mk (blk_drew ja.out)
             have n1_ := Aside0.mk (below_drew1 HB.out)
             clear ja
             clear HB
             have ja := n0_
             have HB := n1_
             clear n0_ n1_
             have ju : 0 ≤ (x3_2 : Int) := of_decide_eq_true (by first | (with_reducible assumption) | assumption)
             have jv : x3_2 < (l0_1.length : Int) := of_decide_eq_true (by first | (with_reducible assumption) | assumption)
             obtain ⟨jb, jaD, jg, jh, jf, je⟩ := at_T45 HR0_1.out x3_2 ju jv
             have jn := je
             have jk := jf
             have ji := jh
             have jj := jg
             cases jaD
             replace jg := (HB.out.cell (World.block_lt_of_cell? w _ jg)).trans jg
             replace jh := (HB.out.cell (World.block_lt_of_cell? w _ jh)).trans jh
             replace jf := (HB.out.cell (World.block_lt_of_cell? w _ jf)).trans jf
             replace je := (HB.out.cell (World.block_lt_of_cell? w _ je)).trans je
             replace ju := eq_true ju
             replace jv := eq_true jv
             have jaB : 0 ≤ ((ji14) : Int) := of_decide_eq_true (by first | (with_reducible assumption) | assumption)
             have jao : (ji14) < (l0_1.length : Int) := of_decide_eq_true (by first | (with_reducible assumption) | assumption)
             obtain ⟨jbk, jaY, jS, jX, jae, jW⟩ := at_T45 HR0_1.out (ji14) jaB jao
             have jM := jW
             have jJ := jae
             have jF := jX
             have jE := jS
             obtain rfl : jb = jbk := (by injection jaY)
             replace jS := (HB.out.cell (World.block_lt_of_cell? w _ jS)).trans jS
             replace jX := (HB.out.cell (World.block_lt_of_cell? w _ jX)).trans jX
             replace jae := (HB.out.cell (World.block_lt_of_cell? w _ jae)).trans jae
             replace jW := (HB.out.cell (World.block_lt_of_cell? w _ jW)).trans jW
             replace jaB := eq_true jaB
             replace jao := eq_true jao
             have jau : 0 ≤ (x3_2 : Int) := of_decide_eq_true (by first | (with_reducible assumption) | assumption)
             have jaA : x3_2 < (l0_1.length : Int) := of_decide_eq_true (by first | (with_reducible assumption) | assumption)
             obtain ⟨jaW, jbe, jZ, jV, jQ, jac⟩ := at_T45 HR0_1.out x3_2 jau jaA
             have jI := jac
             have jL := jQ
             have jG := jV
             have jK := jZ
             obtain rfl : jb = jaW := (by injection jbe)
             replace jZ := (HB.out.cell (World.block_lt_of_cell? w _ jZ)).trans jZ
             replace jV := (HB.out.cell (World.block_lt_of_cell? w _ jV)).trans jV
             replace jQ := (HB.out.cell (World.block_lt_of_cell? w _ jQ)).trans jQ
             replace jac := (HB.out.cell (World.block_lt_of_cell? w _ jac)).trans jac
             replace jau := eq_true jau
             replace jaA := eq_true jaA
             refine start_ (n := 39) (S := fun w' => w'.cell? ⟨jc, 0, none⟩ = some (.int .i64 a0_0) ∧ w'.cell? ⟨jc, 1, none⟩ = some (.slice (some jb) l0_1.length c0_1) ∧ w'.cell? ⟨jc, 2, none⟩ = some (.slice A0_2 l0_2.length c0_2) ∧ w'.cell? (jb.add ((x3_2).toNat * 4)) = some (.int .i64 ((rd_T45 l0_1 x3_2).f0)) ∧ w'.cell? ⟨(jb.add ((x3_2).toNat * 4)).block, (jb.add ((x3_2).toNat * 4)).off + 1, none⟩ = some (.int .i64 ((rd_T45 l0_1 x3_2).f1)) ∧ w'.cell? ⟨(jb.add ((x3_2).toNat * 4)).block, (jb.add ((x3_2).toNat * 4)).off + 2, none⟩ = some (.bool ((rd_T45 l0_1 x3_2).f2)) ∧ w'.cell? ⟨(jb.add ((x3_2).toNat * 4)).block, (jb.add ((x3_2).toNat * 4)).off + 3, none⟩ = some (.bool ((rd_T45 l0_1 x3_2).f3)) ∧ w'.cell? (jb.add (((ji14)).toNat * 4)) = some (.int .i64 ((rd_T45 l0_1 (ji14)).f0)) ∧ w'.cell? ⟨(jb.add (((ji14)).toNat * 4)).block, (jb.add (((ji14)).toNat * 4)).off + 1, none⟩ = some (.int .i64 ((rd_T45 l0_1 (ji14)).f1)) ∧ w'.cell? ⟨(jb.add (((ji14)).toNat * 4)).block, (jb.add (((ji14)).toNat * 4)).off + 2, none⟩ = some (.bool ((rd_T45 l0_1 (ji14)).f2)) ∧ w'.cell? ⟨(jb.add (((ji14)).toNat * 4)).block, (jb.add (((ji14)).toNat * 4)).off + 3, none⟩ = some (.bool ((rd_T45 l0_1 (ji14)).f3)) ∧ w'.cell? (jb.add ((x3_2).toNat * 4)) = some (.int .i64 ((rd_T45 l0_1 x3_2).f0)) ∧ w'.cell? ⟨(jb.add ((x3_2).toNat * 4)).block, (jb.add ((x3_2).toNat * 4)).off + 1, none⟩ = some (.int .i64 ((rd_T45 l0_1 x3_2).f1)) ∧ w'.cell? ⟨(jb.add ((x3_2).toNat * 4)).block, (jb.add ((x3_2).toNat * 4)).off + 2, none⟩ = some (.bool ((rd_T45 l0_1 x3_2).f2)) ∧ w'.cell? ⟨(jb.add ((x3_2).toNat * 4)).block, (jb.add ((x3_2).toNat * 4)).off + 3, none⟩ = some (.bool ((rd_T45 l0_1 x3_2).f3))) (ds := []) (bt_ 39 0) (by kernel_rfl) rfl rfl ⟨(blk_cell ja.out 0).trans rfl, (blk_cell ja.out 1).trans rfl, (blk_cell ja.out 2).trans rfl, ((HB.out.cell (World.block_lt_of_cell? w _ jj)).trans jj), ((HB.out.cell (World.block_lt_of_cell? w _ ji)).trans ji), ((HB.out.cell (World.block_lt_of_cell? w _ jk)).trans jk), ((HB.out.cell (World.block_lt_of_cell? w _ jn)).trans jn), ((HB.out.cell (World.block_lt_of_cell? w _ jE)).trans jE), ((HB.out.cell (World.block_lt_of_cell? w _ jF)).trans jF), ((HB.out.cell (World.block_lt_of_cell? w _ jJ)).trans jJ), ((HB.out.cell (World.block_lt_of_cell? w _ jM)).trans jM), ((HB.out.cell (World.block_lt_of_cell? w _ jK)).trans jK), ((HB.out.cell (World.block_lt_of_cell? w _ jG)).trans jG), ((HB.out.cell (World.block_lt_of_cell? w _ jL)).trans jL), ((HB.out.cell (World.block_lt_of_cell? w _ jI)).trans jI)⟩ (fun hHeld => ?_); refine with_tabW spec_LockOk.tab6 spec_LockOk.bits6 (fun HT_ HW_ => ?_)
             generalize wr.drew = w19 at ja HB jg jh jf je jS jX jae jW jZ jV jQ jac hHeld ⊢
             refine pu_ 0 (some 27) (bt_ 39 1) (any_of HT_.out (by kernel_rfl)) ?_
             refine pu_ 2 (some 29) (bt_ 39 5) (any_of HT_.out (by kernel_rfl)) ?_
             refine tk_ 1 (some 28) (bt_ 39 7) (take_ofW HT_.out HW_.out (by kernel_rfl)) hHeld ?_
             refine pu_ 3 (some 30) (bt_ 39 15) (any_of HT_.out (by kernel_rfl)) ?_
             refine tk_ 4 (some 31) (bt_ 39 31) (take_ofW HT_.out HW_.out (by kernel_rfl)) hHeld ?_
             refine one_ (i := 5) (N := some 32) (bt_ 39 63) rfl rfl (one_of HT_.out (by kernel_rfl)) (by decide) (fun K hK => ?_)
             refine goes_ Try.func39 (by kernel_rfl) rfl #[.agg #[.int .i64 ((rd_T45 l0_1 x3_2).f0), .int .i64 ((rd_T45 l0_1 x3_2).f1), .bool ((rd_T45 l0_1 x3_2).f2), .bool ((rd_T45 l0_1 x3_2).f3)]] (by rfl) rfl rfl (by (try simp only [List.map_toArray, List.map_cons, List.map_nil]); first | done | rfl | (simp only [List.length_drop, List.length_take]; rfl)) ?_
             with_reducible refine (spec_l11HoldOk.calls ((rd_T45 l0_1 x3_2).f0) ((rd_T45 l0_1 x3_2).f1) ((rd_T45 l0_1 x3_2).f2) ((rd_T45 l0_1 x3_2).f3) true _ A11.out).mono ?_
             rintro e w20 ⟨rfl, hb⟩
             refine ⟨_, rfl, ?_⟩
             have n0_ := Aside0.mk (blk_below (bk_ ja.out) hb)
             have n1_ := Aside0.mk (below_step (hb_ HB.out) hb)
             clear ja
             clear HB
             have ja := n0_
             have HB := n1_
             clear n0_ n1_
             (try clear hb)
             (try clear hb2)
             (try clear hk)
             (try clear hi)
             refine hK.out _ _ ⟨(blk_cell ja.out 0).trans rfl, (blk_cell ja.out 1).trans rfl, (blk_cell ja.out 2).trans rfl, ((HB.out.cell (World.block_lt_of_cell? w _ jj)).trans jj), ((HB.out.cell (World.block_lt_of_cell? w _ ji)).trans ji), ((HB.out.cell (World.block_lt_of_cell? w _ jk)).trans jk), ((HB.out.cell (World.block_lt_of_cell? w _ jn)).trans jn), ((HB.out.cell (World.block_lt_of_cell? w _ jE)).trans jE), ((HB.out.cell (World.block_lt_of_cell? w _ jF)).trans jF), ((HB.out.cell (World.block_lt_of_cell? w _ jJ)).trans jJ), ((HB.out.cell (World.block_lt_of_cell? w _ jM)).trans jM), ((HB.out.cell (World.block_lt_of_cell? w _ jK)).trans jK), ((HB.out.cell (World.block_lt_of_cell? w _ jG)).trans jG), ((HB.out.cell (World.block_lt_of_cell? w _ jL)).trans jL), ((HB.out.cell (World.block_lt_of_cell? w _ jI)).trans jI)⟩ (fun hHeld => ?_)
             clear hK K
             refine norm_ (a' := ?_) ?_ ?_
             rotate_left
             ·show Act.put _ (some 32) _ = _
              simp only [Act.put, List.setIfInBounds_toArray, List.set_cons_zero, List.set_cons_succ, i64_w, i32_w]
              rfl
             refine pu_ 6 (some 33) (bt_ 39 127) (any_of HT_.out (by kernel_rfl)) ?_
             refine pu_ 7 (some 34) (bt_ 39 255) (any_of HT_.out (by kernel_rfl)) ?_
             refine pu_ 8 (some 35) (bt_ 39 511) (any_of HT_.out (by kernel_rfl)) ?_
             refine pu_ 9 (some 36) (bt_ 39 1023) (any_of HT_.out (by kernel_rfl)) ?_
             refine pu_ 10 (some 37) (bt_ 39 2047) (any_of HT_.out (by kernel_rfl)) ?_
             refine pu_ 11 (some 38) (bt_ 39 4095) (any_of HT_.out (by kernel_rfl)) ?_
             refine pu_ 13 (some 40) (bt_ 39 12287) (any_of HT_.out (by kernel_rfl)) ?_
             refine pu_ 14 (some 41) (bt_ 39 28671) (any_of HT_.out (by kernel_rfl)) ?_
             refine pu_ 18 (some 45) (bt_ 39 290815) (any_of HT_.out (by kernel_rfl)) ?_
             refine pu_ 20 (some 47) (bt_ 39 1339391) (any_of HT_.out (by kernel_rfl)) ?_
             refine tk_ 12 (some 39) (bt_ 39 1343487) (take_ofW HT_.out HW_.out (by kernel_rfl)) hHeld ?_
             refine pu_ 15 (some 42) (bt_ 39 1376255) (any_of HT_.out (by kernel_rfl)) ?_
             refine pu_ 16 (some 43) (bt_ 39 1441791) (any_of HT_.out (by kernel_rfl)) ?_
             refine tk_ 17 (some 44) (bt_ 39 1572863) (take_ofW HT_.out HW_.out (by kernel_rfl)) hHeld ?_
             refine tk_ 19 (some 46) (bt_ 39 2097151) (take_ofW HT_.out HW_.out (by kernel_rfl)) hHeld ?_
             refine pu_ 21 (some 48) (bt_ 39 4194303) (any_of HT_.out (by kernel_rfl)) ?_
             refine pu_ 22 (some 49) (bt_ 39 8388607) (any_of HT_.out (by kernel_rfl)) ?_
             refine tk_ 23 (some 50) (bt_ 39 16777215) (take_ofW HT_.out HW_.out (by kernel_rfl)) hHeld ?_
             refine pu_ 24 (some 51) (bt_ 39 33554431) (any_of HT_.out (by kernel_rfl)) ?_
             refine pu_ 25 (some 52) (bt_ 39 67108863) (any_of HT_.out (by kernel_rfl)) ?_
             refine pn_ 26 (some 53) (bt_ 39 134217727) (any_of HT_.out (by kernel_rfl)) ?_
             refine pn_ 27 (some 54) (bt_ 39 268435455) (any_of HT_.out (by kernel_rfl)) ?_
             refine pn_ 28 (some 55) (bt_ 39 536870911) (any_of HT_.out (by kernel_rfl)) ?_
             refine pn_ 29 (some 56) (bt_ 39 1073741823) (any_of HT_.out (by kernel_rfl)) ?_
             refine pn_ 30 (some 57) (bt_ 39 2147483647) (any_of HT_.out (by kernel_rfl)) ?_
             refine pn_ 31 (some 58) (bt_ 39 4294967295) (any_of HT_.out (by kernel_rfl)) ?_
             refine pn_ 32 (some 59) (bt_ 39 8589934591) (any_of HT_.out (by kernel_rfl)) ?_
             refine pn_ 33 (some 60) (bt_ 39 17179869183) (any_of HT_.out (by kernel_rfl)) ?_
             refine pn_ 34 (some 61) (bt_ 39 34359738367) (any_of HT_.out (by kernel_rfl)) ?_
             refine pn_ 35 (some 62) (bt_ 39 68719476735) (any_of HT_.out (by kernel_rfl)) ?_
             refine pu_ 36 (some 63) (bt_ 39 137438953471) (any_of HT_.out (by kernel_rfl)) ?_
             refine pu_ 37 (some 64) (bt_ 39 274877906943) (any_of HT_.out (by kernel_rfl)) ?_
             refine pu_ 38 (some 65) (bt_ 39 549755813887) (any_of HT_.out (by kernel_rfl)) ?_
             refine done_ (done_of HT_.out (by kernel_rfl)) ?_
             try go_wp2
             go_ret
             exact ⟨by first | rfl | (simp [errW_none, errW_some] <;> rfl) | (simp only [← hji14]; first | rfl | (simp [errW_none, errW_some] <;> rfl)) | (simp [*, errW_none, errW_some] <;> rfl), by repeat (first | (with_reducible first | exact HB.out | apply below_alloc | apply pw_below_drewN | apply below_drew1 | refine below_set ?_ jaF.out) | exact HB.out)⟩
            ·rw [if_neg c17] at H
             have c17b0 : decide (((rd_T45 l0_1 x3_2).f0) ≤ ((rd_T45 l0_1 (ji14)).f0)) = false := decide_eq_false c17
             clear c17
             by_cases c21 : 0 < (l0_1.length : Int)
             ·rw [if_pos c21] at H
              have c21b0 : decide (0 < (l0_1.length : Int)) = true := decide_eq_true c21
              have c21b1 : decide (0 < l0_1.length) = true := decide_eq_true (by omega)
              clear c21
              replace H := Option.bind_eq_some_iff.mp H
              obtain ⟨jaE, A220, H⟩ := H
              replace H : (if jaE = true then (some false) else (spec_LockOk.l0 k2 (wrap64 (x3_2 + 1)) a0_0 l0_1 l0_2)) = some r := H
              have A22 := Aside0.mk A220
              clear A220
              by_cases c23 : jaE = true
              ·subst c23
               have H1 : (some false) = some r := by rw [if_pos rfl] at H; exact H
               clear H
               have H := H1
               clear H1
               obtain rfl := Option.some.inj H
               have hcz24_0 : wr.cell? ⟨jc, 0, none⟩ = some (.int .i64 a0_0) := (blk_cell ja.out 0).trans rfl
               have hcz24_1 : wr.cell? ⟨jc, 1, none⟩ = some (.slice A0_1 l0_1.length c0_1) := (blk_cell ja.out 1).trans rfl
               have hcz24_2 : wr.cell? ⟨jc, 2, none⟩ = some (.slice A0_2 l0_2.length c0_2) := (blk_cell ja.out 2).trans rfl
               have hfz24_0 := blk_frozen ja.out 0
               have hfz24_1 := blk_frozen ja.out 1
               have hfz24_2 := blk_frozen ja.out 2
               try go_wp2
               have n0_ := Aside0.mk (blk_drew ja.out)
               have n1_ := Aside0.mk (below_drew1 HB.out)
               clear ja
               clear HB
               have ja := n0_
               have HB := n1_
               clear n0_ n1_
               have ju : 0 ≤ (x3_2 : Int) := of_decide_eq_true (by first | (with_reducible assumption) | assumption)
               have jv : x3_2 < (l0_1.length : Int) := of_decide_eq_true (by first | (with_reducible assumption) | assumption)
               obtain ⟨jb, jaD, jg, jh, jf, je⟩ := at_T45 HR0_1.out x3_2 ju jv
               have jn := je
               have jk := jf
               have ji := jh
               have jj := jg
               cases jaD
               replace jg := (HB.out.cell (World.block_lt_of_cell? w _ jg)).trans jg
               replace jh := (HB.out.cell (World.block_lt_of_cell? w _ jh)).trans jh
               replace jf := (HB.out.cell (World.block_lt_of_cell? w _ jf)).trans jf
               replace je := (HB.out.cell (World.block_lt_of_cell? w _ je)).trans je
               replace ju := eq_true ju
               replace jv := eq_true jv
               have jaB : 0 ≤ ((ji14) : Int) := of_decide_eq_true (by first | (with_reducible assumption) | assumption)
               have jao : (ji14) < (l0_1.length : Int) := of_decide_eq_true (by first | (with_reducible assumption) | assumption)
               obtain ⟨jbk, jaY, jS, jX, jae, jW⟩ := at_T45 HR0_1.out (ji14) jaB jao
               have jM := jW
               have jJ := jae
               have jF := jX
               have jE := jS
               obtain rfl : jb = jbk := (by injection jaY)
               replace jS := (HB.out.cell (World.block_lt_of_cell? w _ jS)).trans jS
               replace jX := (HB.out.cell (World.block_lt_of_cell? w _ jX)).trans jX
               replace jae := (HB.out.cell (World.block_lt_of_cell? w _ jae)).trans jae
               replace jW := (HB.out.cell (World.block_lt_of_cell? w _ jW)).trans jW
               replace jaB := eq_true jaB
               replace jao := eq_true jao
               have jau : 0 ≤ (x3_2 : Int) := of_decide_eq_true (by first | (with_reducible assumption) | assumption)
               have jaA : x3_2 < (l0_1.length : Int) := of_decide_eq_true (by first | (with_reducible assumption) | assumption)
               obtain ⟨jaW, jbe, jZ, jV, jQ, jac⟩ := at_T45 HR0_1.out x3_2 jau jaA
               have jI := jac
               have jL := jQ
               have jG := jV
               have jK := jZ
               obtain rfl : jb = jaW := (by injection jbe)
               replace jZ := (HB.out.cell (World.block_lt_of_cell? w _ jZ)).trans jZ
               replace jV := (HB.out.cell (World.block_lt_of_cell? w _ jV)).trans jV
               replace jQ := (HB.out.cell (World.block_lt_of_cell? w _ jQ)).trans jQ
               replace jac := (HB.out.cell (World.block_lt_of_cell? w _ jac)).trans jac
               replace jau := eq_true jau
               replace jaA := eq_true jaA
               have jaJ : 0 ≤ (0 : Int) := (by omega)
               have jaL : 0 < (l0_1.length : Int) := of_decide_eq_true (by first | (with_reducible assumption) | assumption)
               obtain ⟨jbw, jbE, jR, jad, jO, jN⟩ := at_T45 HR0_1.out 0 jaJ jaL
               have jx := jN
               (try rw [show ((0 : Int)).toNat = 0 from rfl] at jx)
               (try rw [show 0 * 4 = 0 from rfl] at jx)
               (try rw [Addr.add_zero'] at jx)
               have jA := jO
               (try rw [show ((0 : Int)).toNat = 0 from rfl] at jA)
               (try rw [show 0 * 4 = 0 from rfl] at jA)
               (try rw [Addr.add_zero'] at jA)
               have jy := jad
               (try rw [show ((0 : Int)).toNat = 0 from rfl] at jy)
               (try rw [show 0 * 4 = 0 from rfl] at jy)
               (try rw [Addr.add_zero'] at jy)
               have jC := jR
               (try rw [show ((0 : Int)).toNat = 0 from rfl] at jC)
               (try rw [show 0 * 4 = 0 from rfl] at jC)
               (try rw [Addr.add_zero'] at jC)
               obtain rfl : jb = jbw := (by injection jbE)
               have jbK : (0 < l0_1.length) = True := eq_true (by omega)
               (try rw [show ((0 : Int)).toNat = 0 from rfl] at jR)
               (try rw [show 0 * 4 = 0 from rfl] at jR)
               (try rw [Addr.add_zero'] at jR)
               (try rw [show ((0 : Int)).toNat = 0 from rfl] at jad)
               (try rw [show 0 * 4 = 0 from rfl] at jad)
               (try rw [Addr.add_zero'] at jad)
               (try rw [show ((0 : Int)).toNat = 0 from rfl] at jO)
               (try rw [show 0 * 4 = 0 from rfl] at jO)
               (try rw [Addr.add_zero'] at jO)
               (try rw [show ((0 : Int)).toNat = 0 from rfl] at jN)
               (try rw [show 0 * 4 = 0 from rfl] at jN)
               (try rw [Addr.add_zero'] at jN)
               replace jR := (HB.out.cell (World.block_lt_of_cell? w _ jR)).trans jR
               replace jad := (HB.out.cell (World.block_lt_of_cell? w _ jad)).trans jad
               replace jO := (HB.out.cell (World.block_lt_of_cell? w _ jO)).trans jO
               replace jN := (HB.out.cell (World.block_lt_of_cell? w _ jN)).trans jN
               replace jaJ := eq_true jaJ
               replace jaL := eq_true jaL
               have jaG : 0 ≤ (x3_2 : Int) := of_decide_eq_true (by first | (with_reducible assumption) | assumption)
               have jaO : x3_2 < (l0_1.length : Int) := of_decide_eq_true (by first | (with_reducible assumption) | assumption)
               obtain ⟨jbz, jbA, jax, jar, jat, jay⟩ := at_T45 HR0_1.out x3_2 jaG jaO
               have jaj := jay
               have jam := jat
               have jal := jar
               have jak := jax
               obtain rfl : jb = jbz := (by injection jbA)
               replace jax := (HB.out.cell (World.block_lt_of_cell? w _ jax)).trans jax
               replace jar := (HB.out.cell (World.block_lt_of_cell? w _ jar)).trans jar
               replace jat := (HB.out.cell (World.block_lt_of_cell? w _ jat)).trans jat
               replace jay := (HB.out.cell (World.block_lt_of_cell? w _ jay)).trans jay
               replace jaG := eq_true jaG
               replace jaO := eq_true jaO
               refine start_ (n := 39) (S := fun w' => w'.cell? ⟨jc, 0, none⟩ = some (.int .i64 a0_0) ∧ w'.cell? ⟨jc, 1, none⟩ = some (.slice (some jb) l0_1.length c0_1) ∧ w'.cell? ⟨jc, 2, none⟩ = some (.slice A0_2 l0_2.length c0_2) ∧ w'.cell? (jb.add ((x3_2).toNat * 4)) = some (.int .i64 ((rd_T45 l0_1 x3_2).f0)) ∧ w'.cell? ⟨(jb.add ((x3_2).toNat * 4)).block, (jb.add ((x3_2).toNat * 4)).off + 1, none⟩ = some (.int .i64 ((rd_T45 l0_1 x3_2).f1)) ∧ w'.cell? ⟨(jb.add ((x3_2).toNat * 4)).block, (jb.add ((x3_2).toNat * 4)).off + 2, none⟩ = some (.bool ((rd_T45 l0_1 x3_2).f2)) ∧ w'.cell? ⟨(jb.add ((x3_2).toNat * 4)).block, (jb.add ((x3_2).toNat * 4)).off + 3, none⟩ = some (.bool ((rd_T45 l0_1 x3_2).f3)) ∧ w'.cell? (jb.add (((ji14)).toNat * 4)) = some (.int .i64 ((rd_T45 l0_1 (ji14)).f0)) ∧ w'.cell? ⟨(jb.add (((ji14)).toNat * 4)).block, (jb.add (((ji14)).toNat * 4)).off + 1, none⟩ = some (.int .i64 ((rd_T45 l0_1 (ji14)).f1)) ∧ w'.cell? ⟨(jb.add (((ji14)).toNat * 4)).block, (jb.add (((ji14)).toNat * 4)).off + 2, none⟩ = some (.bool ((rd_T45 l0_1 (ji14)).f2)) ∧ w'.cell? ⟨(jb.add (((ji14)).toNat * 4)).block, (jb.add (((ji14)).toNat * 4)).off + 3, none⟩ = some (.bool ((rd_T45 l0_1 (ji14)).f3)) ∧ w'.cell? (jb.add ((x3_2).toNat * 4)) = some (.int .i64 ((rd_T45 l0_1 x3_2).f0)) ∧ w'.cell? ⟨(jb.add ((x3_2).toNat * 4)).block, (jb.add ((x3_2).toNat * 4)).off + 1, none⟩ = some (.int .i64 ((rd_T45 l0_1 x3_2).f1)) ∧ w'.cell? ⟨(jb.add ((x3_2).toNat * 4)).block, (jb.add ((x3_2).toNat * 4)).off + 2, none⟩ = some (.bool ((rd_T45 l0_1 x3_2).f2)) ∧ w'.cell? ⟨(jb.add ((x3_2).toNat * 4)).block, (jb.add ((x3_2).toNat * 4)).off + 3, none⟩ = some (.bool ((rd_T45 l0_1 x3_2).f3)) ∧ w'.cell? jb = some (.int .i64 ((rd_T45 l0_1 0).f0)) ∧ w'.cell? ⟨jb.block, jb.off + 1, none⟩ = some (.int .i64 ((rd_T45 l0_1 0).f1)) ∧ w'.cell? ⟨jb.block, jb.off + 2, none⟩ = some (.bool ((rd_T45 l0_1 0).f2)) ∧ w'.cell? ⟨jb.block, jb.off + 3, none⟩ = some (.bool ((rd_T45 l0_1 0).f3)) ∧ w'.cell? (jb.add ((x3_2).toNat * 4)) = some (.int .i64 ((rd_T45 l0_1 x3_2).f0)) ∧ w'.cell? ⟨(jb.add ((x3_2).toNat * 4)).block, (jb.add ((x3_2).toNat * 4)).off + 1, none⟩ = some (.int .i64 ((rd_T45 l0_1 x3_2).f1)) ∧ w'.cell? ⟨(jb.add ((x3_2).toNat * 4)).block, (jb.add ((x3_2).toNat * 4)).off + 2, none⟩ = some (.bool ((rd_T45 l0_1 x3_2).f2)) ∧ w'.cell? ⟨(jb.add ((x3_2).toNat * 4)).block, (jb.add ((x3_2).toNat * 4)).off + 3, none⟩ = some (.bool ((rd_T45 l0_1 x3_2).f3))) (ds := []) (bt_ 39 0) (by kernel_rfl) rfl rfl ⟨(blk_cell ja.out 0).trans rfl, (blk_cell ja.out 1).trans rfl, (blk_cell ja.out 2).trans rfl, ((HB.out.cell (World.block_lt_of_cell? w _ jj)).trans jj), ((HB.out.cell (World.block_lt_of_cell? w _ ji)).trans ji), ((HB.out.cell (World.block_lt_of_cell? w _ jk)).trans jk), ((HB.out.cell (World.block_lt_of_cell? w _ jn)).trans jn), ((HB.out.cell (World.block_lt_of_cell? w _ jE)).trans jE), ((HB.out.cell (World.block_lt_of_cell? w _ jF)).trans jF), ((HB.out.cell (World.block_lt_of_cell? w _ jJ)).trans jJ), ((HB.out.cell (World.block_lt_of_cell? w _ jM)).trans jM), ((HB.out.cell (World.block_lt_of_cell? w _ jK)).trans jK), ((HB.out.cell (World.block_lt_of_cell? w _ jG)).trans jG), ((HB.out.cell (World.block_lt_of_cell? w _ jL)).trans jL), ((HB.out.cell (World.block_lt_of_cell? w _ jI)).trans jI), ((HB.out.cell (World.block_lt_of_cell? w _ jC)).trans jC), ((HB.out.cell (World.block_lt_of_cell? w _ jy)).trans jy), ((HB.out.cell (World.block_lt_of_cell? w _ jA)).trans jA), ((HB.out.cell (World.block_lt_of_cell? w _ jx)).trans jx), ((HB.out.cell (World.block_lt_of_cell? w _ jak)).trans jak), ((HB.out.cell (World.block_lt_of_cell? w _ jal)).trans jal), ((HB.out.cell (World.block_lt_of_cell? w _ jam)).trans jam), ((HB.out.cell (World.block_lt_of_cell? w _ jaj)).trans jaj)⟩ (fun hHeld => ?_); refine with_tabW spec_LockOk.tab6 spec_LockOk.bits6 (fun HT_ HW_ => ?_)
               generalize wr.drew = w25 at ja HB jg jh jf je jS jX jae jW jZ jV jQ jac jR jad jO jN jax jar jat jay hHeld ⊢
               refine pu_ 0 (some 27) (bt_ 39 1) (any_of HT_.out (by kernel_rfl)) ?_
               refine pu_ 2 (some 29) (bt_ 39 5) (any_of HT_.out (by kernel_rfl)) ?_
               refine tk_ 1 (some 28) (bt_ 39 7) (take_ofW HT_.out HW_.out (by kernel_rfl)) hHeld ?_
               refine pu_ 3 (some 30) (bt_ 39 15) (any_of HT_.out (by kernel_rfl)) ?_
               refine tk_ 4 (some 31) (bt_ 39 31) (take_ofW HT_.out HW_.out (by kernel_rfl)) hHeld ?_
               refine one_ (i := 5) (N := some 32) (bt_ 39 63) rfl rfl (one_of HT_.out (by kernel_rfl)) (by decide) (fun K hK => ?_)
               refine goes_ Try.func39 (by kernel_rfl) rfl #[.agg #[.int .i64 ((rd_T45 l0_1 x3_2).f0), .int .i64 ((rd_T45 l0_1 x3_2).f1), .bool ((rd_T45 l0_1 x3_2).f2), .bool ((rd_T45 l0_1 x3_2).f3)]] (by rfl) rfl rfl (by (try simp only [List.map_toArray, List.map_cons, List.map_nil]); first | done | rfl | (simp only [List.length_drop, List.length_take]; rfl)) ?_
               with_reducible refine (spec_l11HoldOk.calls ((rd_T45 l0_1 x3_2).f0) ((rd_T45 l0_1 x3_2).f1) ((rd_T45 l0_1 x3_2).f2) ((rd_T45 l0_1 x3_2).f3) true _ A11.out).mono ?_
               rintro e w26 ⟨rfl, hb⟩
               refine ⟨_, rfl, ?_⟩
               have n0_ := Aside0.mk (blk_below (bk_ ja.out) hb)
               have n1_ := Aside0.mk (below_step (hb_ HB.out) hb)
               clear ja
               clear HB
               have ja := n0_
               have HB := n1_
               clear n0_ n1_
               (try clear hb)
               (try clear hb2)
               (try clear hk)
               (try clear hi)
               refine hK.out _ _ ⟨(blk_cell ja.out 0).trans rfl, (blk_cell ja.out 1).trans rfl, (blk_cell ja.out 2).trans rfl, ((HB.out.cell (World.block_lt_of_cell? w _ jj)).trans jj), ((HB.out.cell (World.block_lt_of_cell? w _ ji)).trans ji), ((HB.out.cell (World.block_lt_of_cell? w _ jk)).trans jk), ((HB.out.cell (World.block_lt_of_cell? w _ jn)).trans jn), ((HB.out.cell (World.block_lt_of_cell? w _ jE)).trans jE), ((HB.out.cell (World.block_lt_of_cell? w _ jF)).trans jF), ((HB.out.cell (World.block_lt_of_cell? w _ jJ)).trans jJ), ((HB.out.cell (World.block_lt_of_cell? w _ jM)).trans jM), ((HB.out.cell (World.block_lt_of_cell? w _ jK)).trans jK), ((HB.out.cell (World.block_lt_of_cell? w _ jG)).trans jG), ((HB.out.cell (World.block_lt_of_cell? w _ jL)).trans jL), ((HB.out.cell (World.block_lt_of_cell? w _ jI)).trans jI), ((HB.out.cell (World.block_lt_of_cell? w _ jC)).trans jC), ((HB.out.cell (World.block_lt_of_cell? w _ jy)).trans jy), ((HB.out.cell (World.block_lt_of_cell? w _ jA)).trans jA), ((HB.out.cell (World.block_lt_of_cell? w _ jx)).trans jx), ((HB.out.cell (World.block_lt_of_cell? w _ jak)).trans jak), ((HB.out.cell (World.block_lt_of_cell? w _ jal)).trans jal), ((HB.out.cell (World.block_lt_of_cell? w _ jam)).trans jam), ((HB.out.cell (World.block_lt_of_cell? w _ jaj)).trans jaj)⟩ (fun hHeld => ?_)
               clear hK K
               refine norm_ (a' := ?_) ?_ ?_
               rotate_left
               ·show Act.put _ (some 32) _ = _
                simp only [Act.put, List.setIfInBounds_toArray, List.set_cons_zero, List.set_cons_succ, i64_w, i32_w]
                rfl
               refine pu_ 6 (some 33) (bt_ 39 127) (any_of HT_.out (by kernel_rfl)) ?_
               refine pu_ 7 (some 34) (bt_ 39 255) (any_of HT_.out (by kernel_rfl)) ?_
               refine pu_ 8 (some 35) (bt_ 39 511) (any_of HT_.out (by kernel_rfl)) ?_
               refine pu_ 9 (some 36) (bt_ 39 1023) (any_of HT_.out (by kernel_rfl)) ?_
               refine pu_ 10 (some 37) (bt_ 39 2047) (any_of HT_.out (by kernel_rfl)) ?_
               refine pu_ 11 (some 38) (bt_ 39 4095) (any_of HT_.out (by kernel_rfl)) ?_
               refine pu_ 13 (some 40) (bt_ 39 12287) (any_of HT_.out (by kernel_rfl)) ?_
               refine pu_ 14 (some 41) (bt_ 39 28671) (any_of HT_.out (by kernel_rfl)) ?_
               refine pu_ 18 (some 45) (bt_ 39 290815) (any_of HT_.out (by kernel_rfl)) ?_
               refine pu_ 20 (some 47) (bt_ 39 1339391) (any_of HT_.out (by kernel_rfl)) ?_
               refine tk_ 12 (some 39) (bt_ 39 1343487) (take_ofW HT_.out HW_.out (by kernel_rfl)) hHeld ?_
               refine pu_ 15 (some 42) (bt_ 39 1376255) (any_of HT_.out (by kernel_rfl)) ?_
               refine pu_ 16 (some 43) (bt_ 39 1441791) (any_of HT_.out (by kernel_rfl)) ?_
               refine tk_ 17 (some 44) (bt_ 39 1572863) (take_ofW HT_.out HW_.out (by kernel_rfl)) hHeld ?_
               refine tk_ 19 (some 46) (bt_ 39 2097151) (take_ofW HT_.out HW_.out (by kernel_rfl)) hHeld ?_
               refine pu_ 21 (some 48) (bt_ 39 4194303) (any_of HT_.out (by kernel_rfl)) ?_
               refine pu_ 22 (some 49) (bt_ 39 8388607) (any_of HT_.out (by kernel_rfl)) ?_
               refine tk_ 23 (some 50) (bt_ 39 16777215) (take_ofW HT_.out HW_.out (by kernel_rfl)) hHeld ?_
               refine pu_ 24 (some 51) (bt_ 39 33554431) (any_of HT_.out (by kernel_rfl)) ?_
               refine pu_ 25 (some 52) (bt_ 39 67108863) (any_of HT_.out (by kernel_rfl)) ?_
               refine pu_ 26 (some 53) (bt_ 39 134217727) (any_of HT_.out (by kernel_rfl)) ?_
               refine pu_ 30 (some 57) (bt_ 39 1207959551) (any_of HT_.out (by kernel_rfl)) ?_
               refine pu_ 32 (some 59) (bt_ 39 5502926847) (any_of HT_.out (by kernel_rfl)) ?_
               refine tk_ 27 (some 54) (bt_ 39 5637144575) (take_ofW HT_.out HW_.out (by kernel_rfl)) hHeld ?_
               refine pu_ 28 (some 55) (bt_ 39 5905580031) (any_of HT_.out (by kernel_rfl)) ?_
               refine tk_ 29 (some 56) (bt_ 39 6442450943) (take_ofW HT_.out HW_.out (by kernel_rfl)) hHeld ?_
               refine tk_ 31 (some 58) (bt_ 39 8589934591) (take_ofW HT_.out HW_.out (by kernel_rfl)) hHeld ?_
               refine pu_ 33 (some 60) (bt_ 39 17179869183) (any_of HT_.out (by kernel_rfl)) ?_
               refine tk_ 34 (some 61) (bt_ 39 34359738367) (take_ofW HT_.out HW_.out (by kernel_rfl)) hHeld ?_
               refine one_ (i := 35) (N := some 62) (bt_ 39 68719476735) rfl rfl (one_of HT_.out (by kernel_rfl)) (by decide) (fun K hK => ?_)
               refine goes_ Try.func40 (by kernel_rfl) rfl #[.agg #[.int .i64 ((rd_T45 l0_1 0).f0), .int .i64 ((rd_T45 l0_1 0).f1), .bool ((rd_T45 l0_1 0).f2), .bool ((rd_T45 l0_1 0).f3)], .agg #[.int .i64 ((rd_T45 l0_1 x3_2).f0), .int .i64 ((rd_T45 l0_1 x3_2).f1), .bool ((rd_T45 l0_1 x3_2).f2), .bool ((rd_T45 l0_1 x3_2).f3)]] (by rfl) rfl rfl (by (try simp only [List.map_toArray, List.map_cons, List.map_nil]); first | done | rfl | (simp only [List.length_drop, List.length_take]; rfl)) ?_
               with_reducible refine (spec_l11Meet.calls ((rd_T45 l0_1 0).f0) ((rd_T45 l0_1 0).f1) ((rd_T45 l0_1 0).f2) ((rd_T45 l0_1 0).f3) ((rd_T45 l0_1 x3_2).f0) ((rd_T45 l0_1 x3_2).f1) ((rd_T45 l0_1 x3_2).f2) ((rd_T45 l0_1 x3_2).f3) true _ A22.out).mono ?_
               rintro e w27 ⟨rfl, hb⟩
               refine ⟨_, rfl, ?_⟩
               have n0_ := Aside0.mk (blk_below (bk_ ja.out) hb)
               have n1_ := Aside0.mk (below_step (hb_ HB.out) hb)
               clear ja
               clear HB
               have ja := n0_
               have HB := n1_
               clear n0_ n1_
               (try clear hb)
               (try clear hb2)
               (try clear hk)
               (try clear hi)
               refine hK.out _ _ ⟨(blk_cell ja.out 0).trans rfl, (blk_cell ja.out 1).trans rfl, (blk_cell ja.out 2).trans rfl, ((HB.out.cell (World.block_lt_of_cell? w _ jj)).trans jj), ((HB.out.cell (World.block_lt_of_cell? w _ ji)).trans ji), ((HB.out.cell (World.block_lt_of_cell? w _ jk)).trans jk), ((HB.out.cell (World.block_lt_of_cell? w _ jn)).trans jn), ((HB.out.cell (World.block_lt_of_cell? w _ jE)).trans jE), ((HB.out.cell (World.block_lt_of_cell? w _ jF)).trans jF), ((HB.out.cell (World.block_lt_of_cell? w _ jJ)).trans jJ), ((HB.out.cell (World.block_lt_of_cell? w _ jM)).trans jM), ((HB.out.cell (World.block_lt_of_cell? w _ jK)).trans jK), ((HB.out.cell (World.block_lt_of_cell? w _ jG)).trans jG), ((HB.out.cell (World.block_lt_of_cell? w _ jL)).trans jL), ((HB.out.cell (World.block_lt_of_cell? w _ jI)).trans jI), ((HB.out.cell (World.block_lt_of_cell? w _ jC)).trans jC), ((HB.out.cell (World.block_lt_of_cell? w _ jy)).trans jy), ((HB.out.cell (World.block_lt_of_cell? w _ jA)).trans jA), ((HB.out.cell (World.block_lt_of_cell? w _ jx)).trans jx), ((HB.out.cell (World.block_lt_of_cell? w _ jak)).trans jak), ((HB.out.cell (World.block_lt_of_cell? w _ jal)).trans jal), ((HB.out.cell (World.block_lt_of_cell? w _ jam)).trans jam), ((HB.out.cell (World.block_lt_of_cell? w _ jaj)).trans jaj)⟩ (fun hHeld => ?_)
               clear hK K
               refine norm_ (a' := ?_) ?_ ?_
               rotate_left
               ·show Act.put _ (some 62) _ = _
                simp only [Act.put, List.setIfInBounds_toArray, List.set_cons_zero, List.set_cons_succ, i64_w, i32_w]
                rfl
               refine pu_ 36 (some 63) (bt_ 39 137438953471) (any_of HT_.out (by kernel_rfl)) ?_
               refine pu_ 37 (some 64) (bt_ 39 274877906943) (any_of HT_.out (by kernel_rfl)) ?_
               refine pu_ 38 (some 65) (bt_ 39 549755813887) (any_of HT_.out (by kernel_rfl)) ?_
               refine done_ (done_of HT_.out (by kernel_rfl)) ?_
               try go_wp2
               go_ret
               exact ⟨by first | rfl | (simp [errW_none, errW_some] <;> rfl) | (simp only [← hji14]; first | rfl | (simp [errW_none, errW_some] <;> rfl)) | (simp [*, errW_none, errW_some] <;> rfl), by repeat (first | (with_reducible first | exact HB.out | apply below_alloc | apply pw_below_drewN | apply below_drew1 | refine below_set ?_ jaF.out) | exact HB.out)⟩
              ·replace c23 := Bool.eq_false_iff.mpr c23
               subst c23
               have H1 : (spec_LockOk.l0 k2 (wrap64 (x3_2 + 1)) a0_0 l0_1 l0_2) = some r := by rw [if_neg (show ¬ (false = true) by decide)] at H; exact H
               clear H
               have H := H1
               clear H1
               have H' := Aside0.mk H
               clear H
               have hcz28_0 : wr.cell? ⟨jc, 0, none⟩ = some (.int .i64 a0_0) := (blk_cell ja.out 0).trans rfl
               have hcz28_1 : wr.cell? ⟨jc, 1, none⟩ = some (.slice A0_1 l0_1.length c0_1) := (blk_cell ja.out 1).trans rfl
               have hcz28_2 : wr.cell? ⟨jc, 2, none⟩ = some (.slice A0_2 l0_2.length c0_2) := (blk_cell ja.out 2).trans rfl
               have hfz28_0 := blk_frozen ja.out 0
               have hfz28_1 := blk_frozen ja.out 1
               have hfz28_2 := blk_frozen ja.out 2
               try go_wp2
               have n0_ := Aside0.mk (blk_drew ja.out)
               have n1_ := Aside0.mk (below_drew1 HB.out)
               clear ja
               clear HB
               have ja := n0_
               have HB := n1_
               clear n0_ n1_
               have ju : 0 ≤ (x3_2 : Int) := of_decide_eq_true (by first | (with_reducible assumption) | assumption)
               have jv : x3_2 < (l0_1.length : Int) := of_decide_eq_true (by first | (with_reducible assumption) | assumption)
               obtain ⟨jb, jaD, jg, jh, jf, je⟩ := at_T45 HR0_1.out x3_2 ju jv
               have jn := je
               have jk := jf
               have ji := jh
               have jj := jg
               cases jaD
               replace jg := (HB.out.cell (World.block_lt_of_cell? w _ jg)).trans jg
               replace jh := (HB.out.cell (World.block_lt_of_cell? w _ jh)).trans jh
               replace jf := (HB.out.cell (World.block_lt_of_cell? w _ jf)).trans jf
               replace je := (HB.out.cell (World.block_lt_of_cell? w _ je)).trans je
               replace ju := eq_true ju
               replace jv := eq_true jv
               have jaB : 0 ≤ ((ji14) : Int) := of_decide_eq_true (by first | (with_reducible assumption) | assumption)
               have jao : (ji14) < (l0_1.length : Int) := of_decide_eq_true (by first | (with_reducible assumption) | assumption)
               obtain ⟨jbk, jaY, jS, jX, jae, jW⟩ := at_T45 HR0_1.out (ji14) jaB jao
               have jM := jW
               have jJ := jae
               have jF := jX
               have jE := jS
               obtain rfl : jb = jbk := (by injection jaY)
               replace jS := (HB.out.cell (World.block_lt_of_cell? w _ jS)).trans jS
               replace jX := (HB.out.cell (World.block_lt_of_cell? w _ jX)).trans jX
               replace jae := (HB.out.cell (World.block_lt_of_cell? w _ jae)).trans jae
               replace jW := (HB.out.cell (World.block_lt_of_cell? w _ jW)).trans jW
               replace jaB := eq_true jaB
               replace jao := eq_true jao
               have jau : 0 ≤ (x3_2 : Int) := of_decide_eq_true (by first | (with_reducible assumption) | assumption)
               have jaA : x3_2 < (l0_1.length : Int) := of_decide_eq_true (by first | (with_reducible assumption) | assumption)
               obtain ⟨jaW, jbe, jZ, jV, jQ, jac⟩ := at_T45 HR0_1.out x3_2 jau jaA
               have jI := jac
               have jL := jQ
               have jG := jV
               have jK := jZ
               obtain rfl : jb = jaW := (by injection jbe)
               replace jZ := (HB.out.cell (World.block_lt_of_cell? w _ jZ)).trans jZ
               replace jV := (HB.out.cell (World.block_lt_of_cell? w _ jV)).trans jV
               replace jQ := (HB.out.cell (World.block_lt_of_cell? w _ jQ)).trans jQ
               replace jac := (HB.out.cell (World.block_lt_of_cell? w _ jac)).trans jac
               replace jau := eq_true jau
               replace jaA := eq_true jaA
               have jaJ : 0 ≤ (0 : Int) := (by omega)
               have jaL : 0 < (l0_1.length : Int) := of_decide_eq_true (by first | (with_reducible assumption) | assumption)
               obtain ⟨jbw, jbE, jR, jad, jO, jN⟩ := at_T45 HR0_1.out 0 jaJ jaL
               have jx := jN
               (try rw [show ((0 : Int)).toNat = 0 from rfl] at jx)
               (try rw [show 0 * 4 = 0 from rfl] at jx)
               (try rw [Addr.add_zero'] at jx)
               have jA := jO
               (try rw [show ((0 : Int)).toNat = 0 from rfl] at jA)
               (try rw [show 0 * 4 = 0 from rfl] at jA)
               (try rw [Addr.add_zero'] at jA)
               have jy := jad
               (try rw [show ((0 : Int)).toNat = 0 from rfl] at jy)
               (try rw [show 0 * 4 = 0 from rfl] at jy)
               (try rw [Addr.add_zero'] at jy)
               have jC := jR
               (try rw [show ((0 : Int)).toNat = 0 from rfl] at jC)
               (try rw [show 0 * 4 = 0 from rfl] at jC)
               (try rw [Addr.add_zero'] at jC)
               obtain rfl : jb = jbw := (by injection jbE)
               have jbK : (0 < l0_1.length) = True := eq_true (by omega)
               (try rw [show ((0 : Int)).toNat = 0 from rfl] at jR)
               (try rw [show 0 * 4 = 0 from rfl] at jR)
               (try rw [Addr.add_zero'] at jR)
               (try rw [show ((0 : Int)).toNat = 0 from rfl] at jad)
               (try rw [show 0 * 4 = 0 from rfl] at jad)
               (try rw [Addr.add_zero'] at jad)
               (try rw [show ((0 : Int)).toNat = 0 from rfl] at jO)
               (try rw [show 0 * 4 = 0 from rfl] at jO)
               (try rw [Addr.add_zero'] at jO)
               (try rw [show ((0 : Int)).toNat = 0 from rfl] at jN)
               (try rw [show 0 * 4 = 0 from rfl] at jN)
               (try rw [Addr.add_zero'] at jN)
               replace jR := (HB.out.cell (World.block_lt_of_cell? w _ jR)).trans jR
               replace jad := (HB.out.cell (World.block_lt_of_cell? w _ jad)).trans jad
               replace jO := (HB.out.cell (World.block_lt_of_cell? w _ jO)).trans jO
               replace jN := (HB.out.cell (World.block_lt_of_cell? w _ jN)).trans jN
               replace jaJ := eq_true jaJ
               replace jaL := eq_true jaL
               have jaG : 0 ≤ (x3_2 : Int) := of_decide_eq_true (by first | (with_reducible assumption) | assumption)
               have jaO : x3_2 < (l0_1.length : Int) := of_decide_eq_true (by first | (with_reducible assumption) | assumption)
               obtain ⟨jbz, jbA, jax, jar, jat, jay⟩ := at_T45 HR0_1.out x3_2 jaG jaO
               have jaj := jay
               have jam := jat
               have jal := jar
               have jak := jax
               obtain rfl : jb = jbz := (by injection jbA)
               replace jax := (HB.out.cell (World.block_lt_of_cell? w _ jax)).trans jax
               replace jar := (HB.out.cell (World.block_lt_of_cell? w _ jar)).trans jar
               replace jat := (HB.out.cell (World.block_lt_of_cell? w _ jat)).trans jat
               replace jay := (HB.out.cell (World.block_lt_of_cell? w _ jay)).trans jay
               replace jaG := eq_true jaG
               replace jaO := eq_true jaO
               refine start_ (n := 39) (S := fun w' => w'.cell? ⟨jc, 0, none⟩ = some (.int .i64 a0_0) ∧ w'.cell? ⟨jc, 1, none⟩ = some (.slice (some jb) l0_1.length c0_1) ∧ w'.cell? ⟨jc, 2, none⟩ = some (.slice A0_2 l0_2.length c0_2) ∧ w'.cell? (jb.add ((x3_2).toNat * 4)) = some (.int .i64 ((rd_T45 l0_1 x3_2).f0)) ∧ w'.cell? ⟨(jb.add ((x3_2).toNat * 4)).block, (jb.add ((x3_2).toNat * 4)).off + 1, none⟩ = some (.int .i64 ((rd_T45 l0_1 x3_2).f1)) ∧ w'.cell? ⟨(jb.add ((x3_2).toNat * 4)).block, (jb.add ((x3_2).toNat * 4)).off + 2, none⟩ = some (.bool ((rd_T45 l0_1 x3_2).f2)) ∧ w'.cell? ⟨(jb.add ((x3_2).toNat * 4)).block, (jb.add ((x3_2).toNat * 4)).off + 3, none⟩ = some (.bool ((rd_T45 l0_1 x3_2).f3)) ∧ w'.cell? (jb.add (((ji14)).toNat * 4)) = some (.int .i64 ((rd_T45 l0_1 (ji14)).f0)) ∧ w'.cell? ⟨(jb.add (((ji14)).toNat * 4)).block, (jb.add (((ji14)).toNat * 4)).off + 1, none⟩ = some (.int .i64 ((rd_T45 l0_1 (ji14)).f1)) ∧ w'.cell? ⟨(jb.add (((ji14)).toNat * 4)).block, (jb.add (((ji14)).toNat * 4)).off + 2, none⟩ = some (.bool ((rd_T45 l0_1 (ji14)).f2)) ∧ w'.cell? ⟨(jb.add (((ji14)).toNat * 4)).block, (jb.add (((ji14)).toNat * 4)).off + 3, none⟩ = some (.bool ((rd_T45 l0_1 (ji14)).f3)) ∧ w'.cell? (jb.add ((x3_2).toNat * 4)) = some (.int .i64 ((rd_T45 l0_1 x3_2).f0)) ∧ w'.cell? ⟨(jb.add ((x3_2).toNat * 4)).block, (jb.add ((x3_2).toNat * 4)).off + 1, none⟩ = some (.int .i64 ((rd_T45 l0_1 x3_2).f1)) ∧ w'.cell? ⟨(jb.add ((x3_2).toNat * 4)).block, (jb.add ((x3_2).toNat * 4)).off + 2, none⟩ = some (.bool ((rd_T45 l0_1 x3_2).f2)) ∧ w'.cell? ⟨(jb.add ((x3_2).toNat * 4)).block, (jb.add ((x3_2).toNat * 4)).off + 3, none⟩ = some (.bool ((rd_T45 l0_1 x3_2).f3)) ∧ w'.cell? jb = some (.int .i64 ((rd_T45 l0_1 0).f0)) ∧ w'.cell? ⟨jb.block, jb.off + 1, none⟩ = some (.int .i64 ((rd_T45 l0_1 0).f1)) ∧ w'.cell? ⟨jb.block, jb.off + 2, none⟩ = some (.bool ((rd_T45 l0_1 0).f2)) ∧ w'.cell? ⟨jb.block, jb.off + 3, none⟩ = some (.bool ((rd_T45 l0_1 0).f3)) ∧ w'.cell? (jb.add ((x3_2).toNat * 4)) = some (.int .i64 ((rd_T45 l0_1 x3_2).f0)) ∧ w'.cell? ⟨(jb.add ((x3_2).toNat * 4)).block, (jb.add ((x3_2).toNat * 4)).off + 1, none⟩ = some (.int .i64 ((rd_T45 l0_1 x3_2).f1)) ∧ w'.cell? ⟨(jb.add ((x3_2).toNat * 4)).block, (jb.add ((x3_2).toNat * 4)).off + 2, none⟩ = some (.bool ((rd_T45 l0_1 x3_2).f2)) ∧ w'.cell? ⟨(jb.add ((x3_2).toNat * 4)).block, (jb.add ((x3_2).toNat * 4)).off + 3, none⟩ = some (.bool ((rd_T45 l0_1 x3_2).f3))) (ds := []) (bt_ 39 0) (by kernel_rfl) rfl rfl ⟨(blk_cell ja.out 0).trans rfl, (blk_cell ja.out 1).trans rfl, (blk_cell ja.out 2).trans rfl, ((HB.out.cell (World.block_lt_of_cell? w _ jj)).trans jj), ((HB.out.cell (World.block_lt_of_cell? w _ ji)).trans ji), ((HB.out.cell (World.block_lt_of_cell? w _ jk)).trans jk), ((HB.out.cell (World.block_lt_of_cell? w _ jn)).trans jn), ((HB.out.cell (World.block_lt_of_cell? w _ jE)).trans jE), ((HB.out.cell (World.block_lt_of_cell? w _ jF)).trans jF), ((HB.out.cell (World.block_lt_of_cell? w _ jJ)).trans jJ), ((HB.out.cell (World.block_lt_of_cell? w _ jM)).trans jM), ((HB.out.cell (World.block_lt_of_cell? w _ jK)).trans jK), ((HB.out.cell (World.block_lt_of_cell? w _ jG)).trans jG), ((HB.out.cell (World.block_lt_of_cell? w _ jL)).trans jL), ((HB.out.cell (World.block_lt_of_cell? w _ jI)).trans jI), ((HB.out.cell (World.block_lt_of_cell? w _ jC)).trans jC), ((HB.out.cell (World.block_lt_of_cell? w _ jy)).trans jy), ((HB.out.cell (World.block_lt_of_cell? w _ jA)).trans jA), ((HB.out.cell (World.block_lt_of_cell? w _ jx)).trans jx), ((HB.out.cell (World.block_lt_of_cell? w _ jak)).trans jak), ((HB.out.cell (World.block_lt_of_cell? w _ jal)).trans jal), ((HB.out.cell (World.block_lt_of_cell? w _ jam)).trans jam), ((HB.out.cell (World.block_lt_of_cell? w _ jaj)).trans jaj)⟩ (fun hHeld => ?_); refine with_tabW spec_LockOk.tab6 spec_LockOk.bits6 (fun HT_ HW_ => ?_)
               generalize wr.drew = w29 at ja HB jg jh jf je jS jX jae jW jZ jV jQ jac jR jad jO jN jax jar jat jay hHeld ⊢
               refine pu_ 0 (some 27) (bt_ 39 1) (any_of HT_.out (by kernel_rfl)) ?_
               refine pu_ 2 (some 29) (bt_ 39 5) (any_of HT_.out (by kernel_rfl)) ?_
               refine tk_ 1 (some 28) (bt_ 39 7) (take_ofW HT_.out HW_.out (by kernel_rfl)) hHeld ?_
               refine pu_ 3 (some 30) (bt_ 39 15) (any_of HT_.out (by kernel_rfl)) ?_
               refine tk_ 4 (some 31) (bt_ 39 31) (take_ofW HT_.out HW_.out (by kernel_rfl)) hHeld ?_
               refine one_ (i := 5) (N := some 32) (bt_ 39 63) rfl rfl (one_of HT_.out (by kernel_rfl)) (by decide) (fun K hK => ?_)
               refine goes_ Try.func39 (by kernel_rfl) rfl #[.agg #[.int .i64 ((rd_T45 l0_1 x3_2).f0), .int .i64 ((rd_T45 l0_1 x3_2).f1), .bool ((rd_T45 l0_1 x3_2).f2), .bool ((rd_T45 l0_1 x3_2).f3)]] (by rfl) rfl rfl (by (try simp only [List.map_toArray, List.map_cons, List.map_nil]); first | done | rfl | (simp only [List.length_drop, List.length_take]; rfl)) ?_
               with_reducible refine (spec_l11HoldOk.calls ((rd_T45 l0_1 x3_2).f0) ((rd_T45 l0_1 x3_2).f1) ((rd_T45 l0_1 x3_2).f2) ((rd_T45 l0_1 x3_2).f3) true _ A11.out).mono ?_
               rintro e w30 ⟨rfl, hb⟩
               refine ⟨_, rfl, ?_⟩
               have n0_ := Aside0.mk (blk_below (bk_ ja.out) hb)
               have n1_ := Aside0.mk (below_step (hb_ HB.out) hb)
               clear ja
               clear HB
               have ja := n0_
               have HB := n1_
               clear n0_ n1_
               (try clear hb)
               (try clear hb2)
               (try clear hk)
               (try clear hi)
               refine hK.out _ _ ⟨(blk_cell ja.out 0).trans rfl, (blk_cell ja.out 1).trans rfl, (blk_cell ja.out 2).trans rfl, ((HB.out.cell (World.block_lt_of_cell? w _ jj)).trans jj), ((HB.out.cell (World.block_lt_of_cell? w _ ji)).trans ji), ((HB.out.cell (World.block_lt_of_cell? w _ jk)).trans jk), ((HB.out.cell (World.block_lt_of_cell? w _ jn)).trans jn), ((HB.out.cell (World.block_lt_of_cell? w _ jE)).trans jE), ((HB.out.cell (World.block_lt_of_cell? w _ jF)).trans jF), ((HB.out.cell (World.block_lt_of_cell? w _ jJ)).trans jJ), ((HB.out.cell (World.block_lt_of_cell? w _ jM)).trans jM), ((HB.out.cell (World.block_lt_of_cell? w _ jK)).trans jK), ((HB.out.cell (World.block_lt_of_cell? w _ jG)).trans jG), ((HB.out.cell (World.block_lt_of_cell? w _ jL)).trans jL), ((HB.out.cell (World.block_lt_of_cell? w _ jI)).trans jI), ((HB.out.cell (World.block_lt_of_cell? w _ jC)).trans jC), ((HB.out.cell (World.block_lt_of_cell? w _ jy)).trans jy), ((HB.out.cell (World.block_lt_of_cell? w _ jA)).trans jA), ((HB.out.cell (World.block_lt_of_cell? w _ jx)).trans jx), ((HB.out.cell (World.block_lt_of_cell? w _ jak)).trans jak), ((HB.out.cell (World.block_lt_of_cell? w _ jal)).trans jal), ((HB.out.cell (World.block_lt_of_cell? w _ jam)).trans jam), ((HB.out.cell (World.block_lt_of_cell? w _ jaj)).trans jaj)⟩ (fun hHeld => ?_)
               clear hK K
               refine norm_ (a' := ?_) ?_ ?_
               rotate_left
               ·show Act.put _ (some 32) _ = _
                simp only [Act.put, List.setIfInBounds_toArray, List.set_cons_zero, List.set_cons_succ, i64_w, i32_w]
                rfl
               refine pu_ 6 (some 33) (bt_ 39 127) (any_of HT_.out (by kernel_rfl)) ?_
               refine pu_ 7 (some 34) (bt_ 39 255) (any_of HT_.out (by kernel_rfl)) ?_
               refine pu_ 8 (some 35) (bt_ 39 511) (any_of HT_.out (by kernel_rfl)) ?_
               refine pu_ 9 (some 36) (bt_ 39 1023) (any_of HT_.out (by kernel_rfl)) ?_
               refine pu_ 10 (some 37) (bt_ 39 2047) (any_of HT_.out (by kernel_rfl)) ?_
               refine pu_ 11 (some 38) (bt_ 39 4095) (any_of HT_.out (by kernel_rfl)) ?_
               refine pu_ 13 (some 40) (bt_ 39 12287) (any_of HT_.out (by kernel_rfl)) ?_
               refine pu_ 14 (some 41) (bt_ 39 28671) (any_of HT_.out (by kernel_rfl)) ?_
               refine pu_ 18 (some 45) (bt_ 39 290815) (any_of HT_.out (by kernel_rfl)) ?_
               refine pu_ 20 (some 47) (bt_ 39 1339391) (any_of HT_.out (by kernel_rfl)) ?_
               refine tk_ 12 (some 39) (bt_ 39 1343487) (take_ofW HT_.out HW_.out (by kernel_rfl)) hHeld ?_
               refine pu_ 15 (some 42) (bt_ 39 1376255) (any_of HT_.out (by kernel_rfl)) ?_
               refine pu_ 16 (some 43) (bt_ 39 1441791) (any_of HT_.out (by kernel_rfl)) ?_
               refine tk_ 17 (some 44) (bt_ 39 1572863) (take_ofW HT_.out HW_.out (by kernel_rfl)) hHeld ?_
               refine tk_ 19 (some 46) (bt_ 39 2097151) (take_ofW HT_.out HW_.out (by kernel_rfl)) hHeld ?_
               refine pu_ 21 (some 48) (bt_ 39 4194303) (any_of HT_.out (by kernel_rfl)) ?_
               refine pu_ 22 (some 49) (bt_ 39 8388607) (any_of HT_.out (by kernel_rfl)) ?_
               refine tk_ 23 (some 50) (bt_ 39 16777215) (take_ofW HT_.out HW_.out (by kernel_rfl)) hHeld ?_
               refine pu_ 24 (some 51) (bt_ 39 33554431) (any_of HT_.out (by kernel_rfl)) ?_
               refine pu_ 25 (some 52) (bt_ 39 67108863) (any_of HT_.out (by kernel_rfl)) ?_
               refine pu_ 26 (some 53) (bt_ 39 134217727) (any_of HT_.out (by kernel_rfl)) ?_
               refine pu_ 30 (some 57) (bt_ 39 1207959551) (any_of HT_.out (by kernel_rfl)) ?_
               refine pu_ 32 (some 59) (bt_ 39 5502926847) (any_of HT_.out (by kernel_rfl)) ?_
               refine tk_ 27 (some 54) (bt_ 39 5637144575) (take_ofW HT_.out HW_.out (by kernel_rfl)) hHeld ?_
               refine pu_ 28 (some 55) (bt_ 39 5905580031) (any_of HT_.out (by kernel_rfl)) ?_
               refine tk_ 29 (some 56) (bt_ 39 6442450943) (take_ofW HT_.out HW_.out (by kernel_rfl)) hHeld ?_
               refine tk_ 31 (some 58) (bt_ 39 8589934591) (take_ofW HT_.out HW_.out (by kernel_rfl)) hHeld ?_
               refine pu_ 33 (some 60) (bt_ 39 17179869183) (any_of HT_.out (by kernel_rfl)) ?_
               refine tk_ 34 (some 61) (bt_ 39 34359738367) (take_ofW HT_.out HW_.out (by kernel_rfl)) hHeld ?_
               refine one_ (i := 35) (N := some 62) (bt_ 39 68719476735) rfl rfl (one_of HT_.out (by kernel_rfl)) (by decide) (fun K hK => ?_)
               refine goes_ Try.func40 (by kernel_rfl) rfl #[.agg #[.int .i64 ((rd_T45 l0_1 0).f0), .int .i64 ((rd_T45 l0_1 0).f1), .bool ((rd_T45 l0_1 0).f2), .bool ((rd_T45 l0_1 0).f3)], .agg #[.int .i64 ((rd_T45 l0_1 x3_2).f0), .int .i64 ((rd_T45 l0_1 x3_2).f1), .bool ((rd_T45 l0_1 x3_2).f2), .bool ((rd_T45 l0_1 x3_2).f3)]] (by rfl) rfl rfl (by (try simp only [List.map_toArray, List.map_cons, List.map_nil]); first | done | rfl | (simp only [List.length_drop, List.length_take]; rfl)) ?_
               with_reducible refine (spec_l11Meet.calls ((rd_T45 l0_1 0).f0) ((rd_T45 l0_1 0).f1) ((rd_T45 l0_1 0).f2) ((rd_T45 l0_1 0).f3) ((rd_T45 l0_1 x3_2).f0) ((rd_T45 l0_1 x3_2).f1) ((rd_T45 l0_1 x3_2).f2) ((rd_T45 l0_1 x3_2).f3) false _ A22.out).mono ?_
               rintro e w31 ⟨rfl, hb⟩
               refine ⟨_, rfl, ?_⟩
               have n0_ := Aside0.mk (blk_below (bk_ ja.out) hb)
               have n1_ := Aside0.mk (below_step (hb_ HB.out) hb)
               clear ja
               clear HB
               have ja := n0_
               have HB := n1_
               clear n0_ n1_
               (try clear hb)
               (try clear hb2)
               (try clear hk)
               (try clear hi)
               refine hK.out _ _ ⟨(blk_cell ja.out 0).trans rfl, (blk_cell ja.out 1).trans rfl, (blk_cell ja.out 2).trans rfl, ((HB.out.cell (World.block_lt_of_cell? w _ jj)).trans jj), ((HB.out.cell (World.block_lt_of_cell? w _ ji)).trans ji), ((HB.out.cell (World.block_lt_of_cell? w _ jk)).trans jk), ((HB.out.cell (World.block_lt_of_cell? w _ jn)).trans jn), ((HB.out.cell (World.block_lt_of_cell? w _ jE)).trans jE), ((HB.out.cell (World.block_lt_of_cell? w _ jF)).trans jF), ((HB.out.cell (World.block_lt_of_cell? w _ jJ)).trans jJ), ((HB.out.cell (World.block_lt_of_cell? w _ jM)).trans jM), ((HB.out.cell (World.block_lt_of_cell? w _ jK)).trans jK), ((HB.out.cell (World.block_lt_of_cell? w _ jG)).trans jG), ((HB.out.cell (World.block_lt_of_cell? w _ jL)).trans jL), ((HB.out.cell (World.block_lt_of_cell? w _ jI)).trans jI), ((HB.out.cell (World.block_lt_of_cell? w _ jC)).trans jC), ((HB.out.cell (World.block_lt_of_cell? w _ jy)).trans jy), ((HB.out.cell (World.block_lt_of_cell? w _ jA)).trans jA), ((HB.out.cell (World.block_lt_of_cell? w _ jx)).trans jx), ((HB.out.cell (World.block_lt_of_cell? w _ jak)).trans jak), ((HB.out.cell (World.block_lt_of_cell? w _ jal)).trans jal), ((HB.out.cell (World.block_lt_of_cell? w _ jam)).trans jam), ((HB.out.cell (World.block_lt_of_cell? w _ jaj)).trans jaj)⟩ (fun hHeld => ?_)
               clear hK K
               refine norm_ (a' := ?_) ?_ ?_
               rotate_left
               ·show Act.put _ (some 62) _ = _
                simp only [Act.put, List.setIfInBounds_toArray, List.set_cons_zero, List.set_cons_succ, i64_w, i32_w]
                rfl
               refine pu_ 36 (some 63) (bt_ 39 137438953471) (any_of HT_.out (by kernel_rfl)) ?_
               refine pu_ 37 (some 64) (bt_ 39 274877906943) (any_of HT_.out (by kernel_rfl)) ?_
               refine pu_ 38 (some 65) (bt_ 39 549755813887) (any_of HT_.out (by kernel_rfl)) ?_
               refine done_ (done_of HT_.out (by kernel_rfl)) ?_
               try go_wp2
               go_roundg k2
               case measure => have := HJ1.out; have := HK2.out; omega
               case rel => exact ⟨(wrap64 (x3_2 + 1)), (by first | rfl | (simp; done) | (simp [*]; done)), H', ⟨by have := HJ1.out; have := HK2.out; omega⟩, ⟨bk_ ja.out⟩, ⟨hb_ HB.out⟩⟩
             ·rw [if_neg c21] at H
              exact absurd H (by simp)
           ·rw [if_neg c16] at H
            exact absurd H (by simp)
          ·rw [if_neg c15] at H
           exact absurd H (by simp)
         ·rw [if_neg c13] at H
          have c13b0 : decide (0 < x3_2) = false := decide_eq_false c13
          clear c13
          have H' := Aside0.mk H
          clear H
          have hcz32_0 : wr.cell? ⟨jc, 0, none⟩ = some (.int .i64 a0_0) := (blk_cell ja.out 0).trans rfl
          have hcz32_1 : wr.cell? ⟨jc, 1, none⟩ = some (.slice A0_1 l0_1.length c0_1) := (blk_cell ja.out 1).trans rfl
          have hcz32_2 : wr.cell? ⟨jc, 2, none⟩ = some (.slice A0_2 l0_2.length c0_2) := (blk_cell ja.out 2).trans rfl
          have hfz32_0 := blk_frozen ja.out 0
          have hfz32_1 := blk_frozen ja.out 1
          have hfz32_2 := blk_frozen ja.out 2
          try go_wp2
          have n0_ := Aside0.mk (blk_drew ja.out)
          have n1_ := Aside0.mk (below_drew1 HB.out)
          clear ja
          clear HB
          have ja := n0_
          have HB := n1_
          clear n0_ n1_
          have ju : 0 ≤ (x3_2 : Int) := of_decide_eq_true (by first | (with_reducible assumption) | assumption)
          have jv : x3_2 < (l0_1.length : Int) := of_decide_eq_true (by first | (with_reducible assumption) | assumption)
          obtain ⟨jb, jaD, jg, jh, jf, je⟩ := at_T45 HR0_1.out x3_2 ju jv
          have jn := je
          have jk := jf
          have ji := jh
          have jj := jg
          cases jaD
          replace jg := (HB.out.cell (World.block_lt_of_cell? w _ jg)).trans jg
          replace jh := (HB.out.cell (World.block_lt_of_cell? w _ jh)).trans jh
          replace jf := (HB.out.cell (World.block_lt_of_cell? w _ jf)).trans jf
          replace je := (HB.out.cell (World.block_lt_of_cell? w _ je)).trans je
          replace ju := eq_true ju
          replace jv := eq_true jv
          refine start_ (n := 39) (S := fun w' => w'.cell? ⟨jc, 0, none⟩ = some (.int .i64 a0_0) ∧ w'.cell? ⟨jc, 1, none⟩ = some (.slice (some jb) l0_1.length c0_1) ∧ w'.cell? ⟨jc, 2, none⟩ = some (.slice A0_2 l0_2.length c0_2) ∧ w'.cell? (jb.add ((x3_2).toNat * 4)) = some (.int .i64 ((rd_T45 l0_1 x3_2).f0)) ∧ w'.cell? ⟨(jb.add ((x3_2).toNat * 4)).block, (jb.add ((x3_2).toNat * 4)).off + 1, none⟩ = some (.int .i64 ((rd_T45 l0_1 x3_2).f1)) ∧ w'.cell? ⟨(jb.add ((x3_2).toNat * 4)).block, (jb.add ((x3_2).toNat * 4)).off + 2, none⟩ = some (.bool ((rd_T45 l0_1 x3_2).f2)) ∧ w'.cell? ⟨(jb.add ((x3_2).toNat * 4)).block, (jb.add ((x3_2).toNat * 4)).off + 3, none⟩ = some (.bool ((rd_T45 l0_1 x3_2).f3))) (ds := []) (bt_ 39 0) (by kernel_rfl) rfl rfl ⟨(blk_cell ja.out 0).trans rfl, (blk_cell ja.out 1).trans rfl, (blk_cell ja.out 2).trans rfl, ((HB.out.cell (World.block_lt_of_cell? w _ jj)).trans jj), ((HB.out.cell (World.block_lt_of_cell? w _ ji)).trans ji), ((HB.out.cell (World.block_lt_of_cell? w _ jk)).trans jk), ((HB.out.cell (World.block_lt_of_cell? w _ jn)).trans jn)⟩ (fun hHeld => ?_); refine with_tabW spec_LockOk.tab6 spec_LockOk.bits6 (fun HT_ HW_ => ?_)
          generalize wr.drew = w33 at ja HB jg jh jf je hHeld ⊢
          refine pu_ 0 (some 27) (bt_ 39 1) (any_of HT_.out (by kernel_rfl)) ?_
          refine pu_ 2 (some 29) (bt_ 39 5) (any_of HT_.out (by kernel_rfl)) ?_
          refine tk_ 1 (some 28) (bt_ 39 7) (take_ofW HT_.out HW_.out (by kernel_rfl)) hHeld ?_
          refine pu_ 3 (some 30) (bt_ 39 15) (any_of HT_.out (by kernel_rfl)) ?_
          refine tk_ 4 (some 31) (bt_ 39 31) (take_ofW HT_.out HW_.out (by kernel_rfl)) hHeld ?_
          refine one_ (i := 5) (N := some 32) (bt_ 39 63) rfl rfl (one_of HT_.out (by kernel_rfl)) (by decide) (fun K hK => ?_)
          refine goes_ Try.func39 (by kernel_rfl) rfl #[.agg #[.int .i64 ((rd_T45 l0_1 x3_2).f0), .int .i64 ((rd_T45 l0_1 x3_2).f1), .bool ((rd_T45 l0_1 x3_2).f2), .bool ((rd_T45 l0_1 x3_2).f3)]] (by rfl) rfl rfl (by (try simp only [List.map_toArray, List.map_cons, List.map_nil]); first | done | rfl | (simp only [List.length_drop, List.length_take]; rfl)) ?_
          with_reducible refine (spec_l11HoldOk.calls ((rd_T45 l0_1 x3_2).f0) ((rd_T45 l0_1 x3_2).f1) ((rd_T45 l0_1 x3_2).f2) ((rd_T45 l0_1 x3_2).f3) true _ A11.out).mono ?_
          rintro e w34 ⟨rfl, hb⟩
          refine ⟨_, rfl, ?_⟩
          have n0_ := Aside0.mk (blk_below (bk_ ja.out) hb)
          have n1_ := Aside0.mk (below_step (hb_ HB.out) hb)
          clear ja
          clear HB
          have ja := n0_
          have HB := n1_
          clear n0_ n1_
          (try clear hb)
          (try clear hb2)
          (try clear hk)
          (try clear hi)
          refine hK.out _ _ ⟨(blk_cell ja.out 0).trans rfl, (blk_cell ja.out 1).trans rfl, (blk_cell ja.out 2).trans rfl, ((HB.out.cell (World.block_lt_of_cell? w _ jj)).trans jj), ((HB.out.cell (World.block_lt_of_cell? w _ ji)).trans ji), ((HB.out.cell (World.block_lt_of_cell? w _ jk)).trans jk), ((HB.out.cell (World.block_lt_of_cell? w _ jn)).trans jn)⟩ (fun hHeld => ?_)
          clear hK K
          refine norm_ (a' := ?_) ?_ ?_
          rotate_left
          ·show Act.put _ (some 32) _ = _
           simp only [Act.put, List.setIfInBounds_toArray, List.set_cons_zero, List.set_cons_succ, i64_w, i32_w]
           rfl
          refine pu_ 6 (some 33) (bt_ 39 127) (any_of HT_.out (by kernel_rfl)) ?_
          refine pu_ 7 (some 34) (bt_ 39 255) (any_of HT_.out (by kernel_rfl)) ?_
          refine pu_ 8 (some 35) (bt_ 39 511) (any_of HT_.out (by kernel_rfl)) ?_
          refine pu_ 9 (some 36) (bt_ 39 1023) (any_of HT_.out (by kernel_rfl)) ?_
          refine pu_ 10 (some 37) (bt_ 39 2047) (any_of HT_.out (by kernel_rfl)) ?_
          refine pn_ 11 (some 38) (bt_ 39 4095) (any_of HT_.out (by kernel_rfl)) ?_
          refine pn_ 12 (some 39) (bt_ 39 8191) (any_of HT_.out (by kernel_rfl)) ?_
          refine pn_ 13 (some 40) (bt_ 39 16383) (any_of HT_.out (by kernel_rfl)) ?_
          refine pn_ 14 (some 41) (bt_ 39 32767) (any_of HT_.out (by kernel_rfl)) ?_
          refine pn_ 15 (some 42) (bt_ 39 65535) (any_of HT_.out (by kernel_rfl)) ?_
          refine pn_ 16 (some 43) (bt_ 39 131071) (any_of HT_.out (by kernel_rfl)) ?_
          refine pn_ 17 (some 44) (bt_ 39 262143) (any_of HT_.out (by kernel_rfl)) ?_
          refine pn_ 18 (some 45) (bt_ 39 524287) (any_of HT_.out (by kernel_rfl)) ?_
          refine pn_ 19 (some 46) (bt_ 39 1048575) (any_of HT_.out (by kernel_rfl)) ?_
          refine pn_ 20 (some 47) (bt_ 39 2097151) (any_of HT_.out (by kernel_rfl)) ?_
          refine pn_ 21 (some 48) (bt_ 39 4194303) (any_of HT_.out (by kernel_rfl)) ?_
          refine pn_ 22 (some 49) (bt_ 39 8388607) (any_of HT_.out (by kernel_rfl)) ?_
          refine pn_ 23 (some 50) (bt_ 39 16777215) (any_of HT_.out (by kernel_rfl)) ?_
          refine pn_ 24 (some 51) (bt_ 39 33554431) (any_of HT_.out (by kernel_rfl)) ?_
          refine pn_ 25 (some 52) (bt_ 39 67108863) (any_of HT_.out (by kernel_rfl)) ?_
          refine pn_ 26 (some 53) (bt_ 39 134217727) (any_of HT_.out (by kernel_rfl)) ?_
          refine pn_ 27 (some 54) (bt_ 39 268435455) (any_of HT_.out (by kernel_rfl)) ?_
          refine pn_ 28 (some 55) (bt_ 39 536870911) (any_of HT_.out (by kernel_rfl)) ?_
          refine pn_ 29 (some 56) (bt_ 39 1073741823) (any_of HT_.out (by kernel_rfl)) ?_
          refine pn_ 30 (some 57) (bt_ 39 2147483647) (any_of HT_.out (by kernel_rfl)) ?_
          refine pn_ 31 (some 58) (bt_ 39 4294967295) (any_of HT_.out (by kernel_rfl)) ?_
          refine pn_ 32 (some 59) (bt_ 39 8589934591) (any_of HT_.out (by kernel_rfl)) ?_
          refine pn_ 33 (some 60) (bt_ 39 17179869183) (any_of HT_.out (by kernel_rfl)) ?_
          refine pn_ 34 (some 61) (bt_ 39 34359738367) (any_of HT_.out (by kernel_rfl)) ?_
          refine pn_ 35 (some 62) (bt_ 39 68719476735) (any_of HT_.out (by kernel_rfl)) ?_
          refine pn_ 36 (some 63) (bt_ 39 137438953471) (any_of HT_.out (by kernel_rfl)) ?_
          refine pu_ 37 (some 64) (bt_ 39 274877906943) (any_of HT_.out (by kernel_rfl)) ?_
          refine pu_ 38 (some 65) (bt_ 39 549755813887) (any_of HT_.out (by kernel_rfl)) ?_
          refine done_ (done_of HT_.out (by kernel_rfl)) ?_
          try go_wp2
          go_roundg k2
          case measure => have := HJ1.out; have := HK2.out; omega
          case rel => exact ⟨(wrap64 (x3_2 + 1)), (by first | rfl | (simp; done) | (simp [*]; done)), H', ⟨by have := HJ1.out; have := HK2.out; omega⟩, ⟨bk_ ja.out⟩, ⟨hb_ HB.out⟩⟩
        ·replace c12 := Bool.eq_false_iff.mpr c12
         subst c12
         have H1 : (some false) = some r := by rw [if_neg (show ¬ (false = true) by decide)] at H; exact H
         clear H
         have H := H1
         clear H1
         obtain rfl := Option.some.inj H
         have hcz35_0 : wr.cell? ⟨jc, 0, none⟩ = some (.int .i64 a0_0) := (blk_cell ja.out 0).trans rfl
         have hcz35_1 : wr.cell? ⟨jc, 1, none⟩ = some (.slice A0_1 l0_1.length c0_1) := (blk_cell ja.out 1).trans rfl
         have hcz35_2 : wr.cell? ⟨jc, 2, none⟩ = some (.slice A0_2 l0_2.length c0_2) := (blk_cell ja.out 2).trans rfl
         have hfz35_0 := blk_frozen ja.out 0
         have hfz35_1 := blk_frozen ja.out 1
         have hfz35_2 := blk_frozen ja.out 2
         try go_wp2
         have n0_ := Aside0.mk (blk_drew ja.out)
         have n1_ := Aside0.mk (below_drew1 HB.out)
         clear ja
         clear HB
         have ja := n0_
         have HB := n1_
         clear n0_ n1_
         have ju : 0 ≤ (x3_2 : Int) := of_decide_eq_true (by first | (with_reducible assumption) | assumption)
         have jv : x3_2 < (l0_1.length : Int) := of_decide_eq_true (by first | (with_reducible assumption) | assumption)
         obtain ⟨jb, jaD, jg, jh, jf, je⟩ := at_T45 HR0_1.out x3_2 ju jv
         have jn := je
         have jk := jf
         have ji := jh
         have jj := jg
         cases jaD
         replace jg := (HB.out.cell (World.block_lt_of_cell? w _ jg)).trans jg
         replace jh := (HB.out.cell (World.block_lt_of_cell? w _ jh)).trans jh
         replace jf := (HB.out.cell (World.block_lt_of_cell? w _ jf)).trans jf
         replace je := (HB.out.cell (World.block_lt_of_cell? w _ je)).trans je
         replace ju := eq_true ju
         replace jv := eq_true jv
         refine start_ (n := 39) (S := fun w' => w'.cell? ⟨jc, 0, none⟩ = some (.int .i64 a0_0) ∧ w'.cell? ⟨jc, 1, none⟩ = some (.slice (some jb) l0_1.length c0_1) ∧ w'.cell? ⟨jc, 2, none⟩ = some (.slice A0_2 l0_2.length c0_2) ∧ w'.cell? (jb.add ((x3_2).toNat * 4)) = some (.int .i64 ((rd_T45 l0_1 x3_2).f0)) ∧ w'.cell? ⟨(jb.add ((x3_2).toNat * 4)).block, (jb.add ((x3_2).toNat * 4)).off + 1, none⟩ = some (.int .i64 ((rd_T45 l0_1 x3_2).f1)) ∧ w'.cell? ⟨(jb.add ((x3_2).toNat * 4)).block, (jb.add ((x3_2).toNat * 4)).off + 2, none⟩ = some (.bool ((rd_T45 l0_1 x3_2).f2)) ∧ w'.cell? ⟨(jb.add ((x3_2).toNat * 4)).block, (jb.add ((x3_2).toNat * 4)).off + 3, none⟩ = some (.bool ((rd_T45 l0_1 x3_2).f3))) (ds := []) (bt_ 39 0) (by kernel_rfl) rfl rfl ⟨(blk_cell ja.out 0).trans rfl, (blk_cell ja.out 1).trans rfl, (blk_cell ja.out 2).trans rfl, ((HB.out.cell (World.block_lt_of_cell? w _ jj)).trans jj), ((HB.out.cell (World.block_lt_of_cell? w _ ji)).trans ji), ((HB.out.cell (World.block_lt_of_cell? w _ jk)).trans jk), ((HB.out.cell (World.block_lt_of_cell? w _ jn)).trans jn)⟩ (fun hHeld => ?_); refine with_tabW spec_LockOk.tab6 spec_LockOk.bits6 (fun HT_ HW_ => ?_)
         generalize wr.drew = w36 at ja HB jg jh jf je hHeld ⊢
         refine pu_ 0 (some 27) (bt_ 39 1) (any_of HT_.out (by kernel_rfl)) ?_
         refine pu_ 2 (some 29) (bt_ 39 5) (any_of HT_.out (by kernel_rfl)) ?_
         refine tk_ 1 (some 28) (bt_ 39 7) (take_ofW HT_.out HW_.out (by kernel_rfl)) hHeld ?_
         refine pu_ 3 (some 30) (bt_ 39 15) (any_of HT_.out (by kernel_rfl)) ?_
         refine tk_ 4 (some 31) (bt_ 39 31) (take_ofW HT_.out HW_.out (by kernel_rfl)) hHeld ?_
         refine one_ (i := 5) (N := some 32) (bt_ 39 63) rfl rfl (one_of HT_.out (by kernel_rfl)) (by decide) (fun K hK => ?_)
         refine goes_ Try.func39 (by kernel_rfl) rfl #[.agg #[.int .i64 ((rd_T45 l0_1 x3_2).f0), .int .i64 ((rd_T45 l0_1 x3_2).f1), .bool ((rd_T45 l0_1 x3_2).f2), .bool ((rd_T45 l0_1 x3_2).f3)]] (by rfl) rfl rfl (by (try simp only [List.map_toArray, List.map_cons, List.map_nil]); first | done | rfl | (simp only [List.length_drop, List.length_take]; rfl)) ?_
         with_reducible refine (spec_l11HoldOk.calls ((rd_T45 l0_1 x3_2).f0) ((rd_T45 l0_1 x3_2).f1) ((rd_T45 l0_1 x3_2).f2) ((rd_T45 l0_1 x3_2).f3) false _ A11.out).mono ?_
         rintro e w37 ⟨rfl, hb⟩
         refine ⟨_, rfl, ?_⟩
         have n0_ := Aside0.mk (blk_below (bk_ ja.out) hb)
         have n1_ := Aside0.mk (below_step (hb_ HB.out) hb)
         clear ja
         clear HB
         have ja := n0_
         have HB := n1_
         clear n0_ n1_
         (try clear hb)
         (try clear hb2)
         (try clear hk)
         (try clear hi)
         refine hK.out _ _ ⟨(blk_cell ja.out 0).trans rfl, (blk_cell ja.out 1).trans rfl, (blk_cell ja.out 2).trans rfl, ((HB.out.cell (World.block_lt_of_cell? w _ jj)).trans jj), ((HB.out.cell (World.block_lt_of_cell? w _ ji)).trans ji), ((HB.out.cell (World.block_lt_of_cell? w _ jk)).trans jk), ((HB.out.cell (World.block_lt_of_cell? w _ jn)).trans jn)⟩ (fun hHeld => ?_)
         clear hK K
         refine norm_ (a' := ?_) ?_ ?_
         rotate_left
         ·show Act.put _ (some 32) _ = _
          simp only [Act.put, List.setIfInBounds_toArray, List.set_cons_zero, List.set_cons_succ, i64_w, i32_w]
          rfl
         refine pu_ 6 (some 33) (bt_ 39 127) (any_of HT_.out (by kernel_rfl)) ?_
         refine pu_ 7 (some 34) (bt_ 39 255) (any_of HT_.out (by kernel_rfl)) ?_
         refine pn_ 8 (some 35) (bt_ 39 511) (any_of HT_.out (by kernel_rfl)) ?_
         refine pn_ 9 (some 36) (bt_ 39 1023) (any_of HT_.out (by kernel_rfl)) ?_
         refine pn_ 10 (some 37) (bt_ 39 2047) (any_of HT_.out (by kernel_rfl)) ?_
         refine pn_ 11 (some 38) (bt_ 39 4095) (any_of HT_.out (by kernel_rfl)) ?_
         refine pn_ 12 (some 39) (bt_ 39 8191) (any_of HT_.out (by kernel_rfl)) ?_
         refine pn_ 13 (some 40) (bt_ 39 16383) (any_of HT_.out (by kernel_rfl)) ?_
         refine pn_ 14 (some 41) (bt_ 39 32767) (any_of HT_.out (by kernel_rfl)) ?_
         refine pn_ 15 (some 42) (bt_ 39 65535) (any_of HT_.out (by kernel_rfl)) ?_
         refine pn_ 16 (some 43) (bt_ 39 131071) (any_of HT_.out (by kernel_rfl)) ?_
         refine pn_ 17 (some 44) (bt_ 39 262143) (any_of HT_.out (by kernel_rfl)) ?_
         refine pn_ 18 (some 45) (bt_ 39 524287) (any_of HT_.out (by kernel_rfl)) ?_
         refine pn_ 19 (some 46) (bt_ 39 1048575) (any_of HT_.out (by kernel_rfl)) ?_
         refine pn_ 20 (some 47) (bt_ 39 2097151) (any_of HT_.out (by kernel_rfl)) ?_
         refine pn_ 21 (some 48) (bt_ 39 4194303) (any_of HT_.out (by kernel_rfl)) ?_
         refine pn_ 22 (some 49) (bt_ 39 8388607) (any_of HT_.out (by kernel_rfl)) ?_
         refine pn_ 23 (some 50) (bt_ 39 16777215) (any_of HT_.out (by kernel_rfl)) ?_
         refine pn_ 24 (some 51) (bt_ 39 33554431) (any_of HT_.out (by kernel_rfl)) ?_
         refine pn_ 25 (some 52) (bt_ 39 67108863) (any_of HT_.out (by kernel_rfl)) ?_
         refine pn_ 26 (some 53) (bt_ 39 134217727) (any_of HT_.out (by kernel_rfl)) ?_
         refine pn_ 27 (some 54) (bt_ 39 268435455) (any_of HT_.out (by kernel_rfl)) ?_
         refine pn_ 28 (some 55) (bt_ 39 536870911) (any_of HT_.out (by kernel_rfl)) ?_
         refine pn_ 29 (some 56) (bt_ 39 1073741823) (any_of HT_.out (by kernel_rfl)) ?_
         refine pn_ 30 (some 57) (bt_ 39 2147483647) (any_of HT_.out (by kernel_rfl)) ?_
         refine pn_ 31 (some 58) (bt_ 39 4294967295) (any_of HT_.out (by kernel_rfl)) ?_
         refine pn_ 32 (some 59) (bt_ 39 8589934591) (any_of HT_.out (by kernel_rfl)) ?_
         refine pn_ 33 (some 60) (bt_ 39 17179869183) (any_of HT_.out (by kernel_rfl)) ?_
         refine pn_ 34 (some 61) (bt_ 39 34359738367) (any_of HT_.out (by kernel_rfl)) ?_
         refine pn_ 35 (some 62) (bt_ 39 68719476735) (any_of HT_.out (by kernel_rfl)) ?_
         refine pn_ 36 (some 63) (bt_ 39 137438953471) (any_of HT_.out (by kernel_rfl)) ?_
         refine pn_ 37 (some 64) (bt_ 39 274877906943) (any_of HT_.out (by kernel_rfl)) ?_
         refine pu_ 38 (some 65) (bt_ 39 549755813887) (any_of HT_.out (by kernel_rfl)) ?_
         refine done_ (done_of HT_.out (by kernel_rfl)) ?_
         try go_wp2
         go_ret
         exact ⟨by first | rfl | (simp [errW_none, errW_some] <;> rfl) | (simp [*, errW_none, errW_some] <;> rfl), by repeat (first | (with_reducible first | exact HB.out | apply below_alloc | apply pw_below_drewN | apply below_drew1 | refine below_set ?_ jaF.out) | exact HB.out)⟩
       ·rw [if_neg c10] at H
        exact absurd H (by simp)
      ·rw [if_neg c9] at H
       have c9b0 : decide (x3_2 < (l0_1.length : Int)) = false := decide_eq_false c9
       clear c9
       have H' := Aside0.mk H
       clear H
       have hcz38_0 : wr.cell? ⟨jc, 0, none⟩ = some (.int .i64 a0_0) := (blk_cell ja.out 0).trans rfl
       have hcz38_1 : wr.cell? ⟨jc, 1, none⟩ = some (.slice A0_1 l0_1.length c0_1) := (blk_cell ja.out 1).trans rfl
       have hcz38_2 : wr.cell? ⟨jc, 2, none⟩ = some (.slice A0_2 l0_2.length c0_2) := (blk_cell ja.out 2).trans rfl
       have hfz38_0 := blk_frozen ja.out 0
       have hfz38_1 := blk_frozen ja.out 1
       have hfz38_2 := blk_frozen ja.out 2
       go_wp2
       go_loopg [4] k2 (fun kq v4 w' => ∃ (x4_3 : Int), v4 = .int .i64 x4_3 ∧ Aside0 (spec_LockOk.l1 kq x4_3 a0_0 l0_1 l0_2 = some r) ∧ Aside0 (kq ≤ k2) ∧ Aside0 (w'.heap[jc]? = some (.cells #[.int .i64 a0_0, (.slice A0_1 l0_1.length c0_1), (.slice A0_2 l0_2.length c0_2)] 29 (0, 0))) ∧ Aside0 (Below w.heap.size w w'))
       case atStart => exact ⟨(0), (by first | rfl | (simp; done) | (simp [*]; done)), H', ⟨Nat.le_refl _⟩, ⟨bk_ ja.out⟩, ⟨hb_ HB.out⟩⟩
       case round =>
        clear H'
        try clear c1
        try clear p1
        try clear q1
        try clear hx1
        try clear c2
        try clear p2
        try clear c3
        try clear c4
        try clear p6
        try clear c9
        try clear c9b0
        try clear c10
        try clear c12
        try clear c13
        try clear c13b0
        try clear c15
        try clear c16
        try clear p17
        try clear q17
        try clear hx17
        try clear c21
        try clear hcz32_0
        try clear hcz32_1
        try clear hcz32_2
        try clear hcz35_0
        try clear hcz35_1
        try clear hcz35_2
        try clear hcz38_0
        try clear hcz38_1
        try clear hcz38_2
        try clear hfz32_0
        try clear hfz32_1
        try clear hfz32_2
        try clear hfz35_0
        try clear hfz35_1
        try clear hfz35_2
        try clear hfz38_0
        try clear hfz38_1
        try clear hfz38_2
        try clear jg
        try clear jh
        try clear jf
        try clear je
        try clear ju
        try clear jv
        obtain ⟨x4_3, rfl, HA, HK3, ja, HB⟩ := hrel
        cases gk with
        | zero => exact absurd HA.out (by simp [spec_LockOk.l1])
        | succ k3 =>
         have H := HA.out
         clear HA
         simp only [spec_LockOk.l1] at H
         by_cases c39 : x4_3 < (l0_2.length : Int)
         ·rw [if_pos c39] at H
          have c39b0 : decide (x4_3 < (l0_2.length : Int)) = true := decide_eq_true c39
          clear c39
          have HC40 := Aside0.mk H
          clear H
          have hcz41_0 : wr.cell? ⟨jc, 0, none⟩ = some (.int .i64 a0_0) := (blk_cell ja.out 0).trans rfl
          have hcz41_1 : wr.cell? ⟨jc, 1, none⟩ = some (.slice A0_1 l0_1.length c0_1) := (blk_cell ja.out 1).trans rfl
          have hcz41_2 : wr.cell? ⟨jc, 2, none⟩ = some (.slice A0_2 l0_2.length c0_2) := (blk_cell ja.out 2).trans rfl
          have hfz41_0 := blk_frozen ja.out 0
          have hfz41_1 := blk_frozen ja.out 1
          have hfz41_2 := blk_frozen ja.out 2
          go_upto_region 11 with (fail)
          go_cut [107] (fun v107 wc => ∃ (kq : Nat) (x107_39 : Bool), v107 = .bool x107_39 ∧ Aside0 (spec_LockOk.j3 kq x4_3 x107_39 a0_0 l0_1 l0_2 = some r) ∧ Aside0 (kq ≤ k3) ∧ Aside0 (wc.heap[jc]? = some (.cells #[.int .i64 a0_0, (.slice A0_1 l0_1.length c0_1), (.slice A0_2 l0_2.length c0_2)] 29 (0, 0))) ∧ Aside0 (Below w.heap.size w wc))
          case first =>
           have H := HC40.out
           clear HC40
           by_cases c42 : 0 ≤ x4_3
           ·rw [if_pos c42] at H
            have c42b0 : decide (0 ≤ x4_3) = true := decide_eq_true c42
            clear c42
            (first | rw [c42b0] | (simp only [i64_w, i32_w]; rw [c42b0]) | skip)
            replace H := Option.bind_eq_some_iff.mp H
            obtain ⟨jbG, A430, H⟩ := H
            replace H : (if jbG = true then (if (rd_T45 l0_2 x4_3).f3 = true then (spec_LockOk.j3 k3 x4_3 true a0_0 l0_1 l0_2) else (if x4_3 > 0 then (if 0 ≤ (wrap64 (x4_3 - 1)) then (if (wrap64 (x4_3 - 1)) < (l0_2.length : Int) then (spec_LockOk.j3 k3 x4_3 (decide (((rd_T45 l0_2 (wrap64 (x4_3 - 1))).f0) ≥ ((rd_T45 l0_2 x4_3).f0))) a0_0 l0_1 l0_2) else (none)) else (none)) else (spec_LockOk.j3 k3 x4_3 false a0_0 l0_1 l0_2))) else (spec_LockOk.j3 k3 x4_3 true a0_0 l0_1 l0_2)) = some r := H
            have A43 := Aside0.mk A430
            clear A430
            by_cases c44 : jbG = true
            ·subst c44
             have H1 : (if (rd_T45 l0_2 x4_3).f3 = true then (spec_LockOk.j3 k3 x4_3 true a0_0 l0_1 l0_2) else (if x4_3 > 0 then (if 0 ≤ (wrap64 (x4_3 - 1)) then (if (wrap64 (x4_3 - 1)) < (l0_2.length : Int) then (spec_LockOk.j3 k3 x4_3 (decide (((rd_T45 l0_2 (wrap64 (x4_3 - 1))).f0) ≥ ((rd_T45 l0_2 x4_3).f0))) a0_0 l0_1 l0_2) else (none)) else (none)) else (spec_LockOk.j3 k3 x4_3 false a0_0 l0_1 l0_2))) = some r := by rw [if_pos rfl] at H; exact H
             clear H
             have H := H1
             clear H1
             obtain ⟨bq45, hbq45⟩ : ∃ b_ : Bool, b_ = ((rd_T45 l0_2 x4_3).f3) := ⟨_, rfl⟩
             replace H : (if bq45 = true then (spec_LockOk.j3 k3 x4_3 true a0_0 l0_1 l0_2) else (if x4_3 > 0 then (if 0 ≤ (wrap64 (x4_3 - 1)) then (if (wrap64 (x4_3 - 1)) < (l0_2.length : Int) then (spec_LockOk.j3 k3 x4_3 (decide (((rd_T45 l0_2 (wrap64 (x4_3 - 1))).f0) ≥ ((rd_T45 l0_2 x4_3).f0))) a0_0 l0_1 l0_2) else (none)) else (none)) else (spec_LockOk.j3 k3 x4_3 false a0_0 l0_1 l0_2))) = some r := by rw [← hbq45] at H; exact H
             have Nbq45 := Aside0.mk hbq45
             clear hbq45
             by_cases c46 : bq45 = true
             ·subst c46
              have H1 : (spec_LockOk.j3 k3 x4_3 true a0_0 l0_1 l0_2) = some r := by rw [if_pos rfl] at H; exact H
              clear H
              have H := H1
              clear H1
              have H' := Aside0.mk H
              clear H
              try go_wp2
              have n0_ := Aside0.mk (blk_drew ja.out)
              have n1_ := Aside0.mk (below_drew1 HB.out)
              clear ja
              clear HB
              have ja := n0_
              have HB := n1_
              clear n0_ n1_
              have jaa : 0 ≤ (x4_3 : Int) := of_decide_eq_true (by first | (with_reducible assumption) | assumption)
              have jY : x4_3 < (l0_2.length : Int) := of_decide_eq_true (by first | (with_reducible assumption) | assumption)
              obtain ⟨jd, jaI, jo, jp, jm, jl⟩ := at_T45 HR0_2.out x4_3 jaa jY
              have js := jl
              have jq := jm
              have jz := jp
              have jD := jo
              (try rw [← Nbq45.out] at jm)
              (try rw [← Nbq45.out] at jq)
              (try rw [← Nbq45.out] at jl)
              (try rw [← Nbq45.out] at js)
              cases jaI
              replace jo := (HB.out.cell (World.block_lt_of_cell? w _ jo)).trans jo
              replace jp := (HB.out.cell (World.block_lt_of_cell? w _ jp)).trans jp
              replace jm := (HB.out.cell (World.block_lt_of_cell? w _ jm)).trans jm
              replace jl := (HB.out.cell (World.block_lt_of_cell? w _ jl)).trans jl
              replace jaa := eq_true jaa
              replace jY := eq_true jY
              have jai : 0 ≤ (x4_3 : Int) := of_decide_eq_true (by first | (with_reducible assumption) | assumption)
              have jah : x4_3 < (l0_2.length : Int) := of_decide_eq_true (by first | (with_reducible assumption) | assumption)
              obtain ⟨jbh, jbd, jB, jw, jr, jt⟩ := at_T45 HR0_2.out x4_3 jai jah
              have jP := jt
              have jT := jr
              have jag := jw
              have jaf := jB
              (try rw [← Nbq45.out] at jr)
              (try rw [← Nbq45.out] at jT)
              (try rw [← Nbq45.out] at jt)
              (try rw [← Nbq45.out] at jP)
              obtain rfl : jd = jbh := (by injection jbd)
              replace jB := (HB.out.cell (World.block_lt_of_cell? w _ jB)).trans jB
              replace jw := (HB.out.cell (World.block_lt_of_cell? w _ jw)).trans jw
              replace jr := (HB.out.cell (World.block_lt_of_cell? w _ jr)).trans jr
              replace jt := (HB.out.cell (World.block_lt_of_cell? w _ jt)).trans jt
              replace jai := eq_true jai
              replace jah := eq_true jah
              refine start_ (n := 35) (S := fun w' => w'.cell? ⟨jc, 0, none⟩ = some (.int .i64 a0_0) ∧ w'.cell? ⟨jc, 1, none⟩ = some (.slice A0_1 l0_1.length c0_1) ∧ w'.cell? ⟨jc, 2, none⟩ = some (.slice (some jd) l0_2.length c0_2) ∧ w'.cell? (jd.add ((x4_3).toNat * 4)) = some (.int .i64 ((rd_T45 l0_2 x4_3).f0)) ∧ w'.cell? ⟨(jd.add ((x4_3).toNat * 4)).block, (jd.add ((x4_3).toNat * 4)).off + 1, none⟩ = some (.int .i64 ((rd_T45 l0_2 x4_3).f1)) ∧ w'.cell? ⟨(jd.add ((x4_3).toNat * 4)).block, (jd.add ((x4_3).toNat * 4)).off + 2, none⟩ = some (.bool ((rd_T45 l0_2 x4_3).f2)) ∧ w'.cell? ⟨(jd.add ((x4_3).toNat * 4)).block, (jd.add ((x4_3).toNat * 4)).off + 3, none⟩ = some (.bool true) ∧ w'.cell? (jd.add ((x4_3).toNat * 4)) = some (.int .i64 ((rd_T45 l0_2 x4_3).f0)) ∧ w'.cell? ⟨(jd.add ((x4_3).toNat * 4)).block, (jd.add ((x4_3).toNat * 4)).off + 1, none⟩ = some (.int .i64 ((rd_T45 l0_2 x4_3).f1)) ∧ w'.cell? ⟨(jd.add ((x4_3).toNat * 4)).block, (jd.add ((x4_3).toNat * 4)).off + 2, none⟩ = some (.bool ((rd_T45 l0_2 x4_3).f2)) ∧ w'.cell? ⟨(jd.add ((x4_3).toNat * 4)).block, (jd.add ((x4_3).toNat * 4)).off + 3, none⟩ = some (.bool true)) (ds := []) (bt_ 35 0) (by kernel_rfl) rfl rfl ⟨(blk_cell ja.out 0).trans rfl, (blk_cell ja.out 1).trans rfl, (blk_cell ja.out 2).trans rfl, ((HB.out.cell (World.block_lt_of_cell? w _ jD)).trans jD), ((HB.out.cell (World.block_lt_of_cell? w _ jz)).trans jz), ((HB.out.cell (World.block_lt_of_cell? w _ jq)).trans jq), ((HB.out.cell (World.block_lt_of_cell? w _ js)).trans js), ((HB.out.cell (World.block_lt_of_cell? w _ jaf)).trans jaf), ((HB.out.cell (World.block_lt_of_cell? w _ jag)).trans jag), ((HB.out.cell (World.block_lt_of_cell? w _ jT)).trans jT), ((HB.out.cell (World.block_lt_of_cell? w _ jP)).trans jP)⟩ (fun hHeld => ?_); refine with_tabW spec_LockOk.tab11 spec_LockOk.bits11 (fun HT_ HW_ => ?_)
              generalize wr.drew = w47 at ja HB jo jp jm jl jB jw jr jt hHeld ⊢
              refine pu_ 0 (some 73) (bt_ 35 1) (any_of HT_.out (by kernel_rfl)) ?_
              refine pu_ 2 (some 75) (bt_ 35 5) (any_of HT_.out (by kernel_rfl)) ?_
              refine tk_ 1 (some 74) (bt_ 35 7) (take_ofW HT_.out HW_.out (by kernel_rfl)) hHeld ?_
              refine pu_ 3 (some 76) (bt_ 35 15) (any_of HT_.out (by kernel_rfl)) ?_
              refine tk_ 4 (some 77) (bt_ 35 31) (take_ofW HT_.out HW_.out (by kernel_rfl)) hHeld ?_
              refine one_ (i := 5) (N := some 78) (bt_ 35 63) rfl rfl (one_of HT_.out (by kernel_rfl)) (by decide) (fun K hK => ?_)
              refine goes_ Try.func39 (by kernel_rfl) rfl #[.agg #[.int .i64 ((rd_T45 l0_2 x4_3).f0), .int .i64 ((rd_T45 l0_2 x4_3).f1), .bool ((rd_T45 l0_2 x4_3).f2), .bool true]] (by rfl) rfl rfl (by (try simp only [List.map_toArray, List.map_cons, List.map_nil]); first | done | rfl | (simp only [List.length_drop, List.length_take]; rfl)) ?_
              with_reducible refine (spec_l11HoldOk.calls ((rd_T45 l0_2 x4_3).f0) ((rd_T45 l0_2 x4_3).f1) ((rd_T45 l0_2 x4_3).f2) true true _ (by first | exact A43.out | (have h_ := A43.out; rw [← Nbq45.out] at h_; exact h_))).mono ?_
              rintro e w48 ⟨rfl, hb⟩
              refine ⟨_, rfl, ?_⟩
              have n0_ := Aside0.mk (blk_below (bk_ ja.out) hb)
              have n1_ := Aside0.mk (below_step (hb_ HB.out) hb)
              clear ja
              clear HB
              have ja := n0_
              have HB := n1_
              clear n0_ n1_
              (try clear hb)
              (try clear hb2)
              (try clear hk)
              (try clear hi)
              refine hK.out _ _ ⟨(blk_cell ja.out 0).trans rfl, (blk_cell ja.out 1).trans rfl, (blk_cell ja.out 2).trans rfl, ((HB.out.cell (World.block_lt_of_cell? w _ jD)).trans jD), ((HB.out.cell (World.block_lt_of_cell? w _ jz)).trans jz), ((HB.out.cell (World.block_lt_of_cell? w _ jq)).trans jq), ((HB.out.cell (World.block_lt_of_cell? w _ js)).trans js), ((HB.out.cell (World.block_lt_of_cell? w _ jaf)).trans jaf), ((HB.out.cell (World.block_lt_of_cell? w _ jag)).trans jag), ((HB.out.cell (World.block_lt_of_cell? w _ jT)).trans jT), ((HB.out.cell (World.block_lt_of_cell? w _ jP)).trans jP)⟩ (fun hHeld => ?_)
              clear hK K
              refine norm_ (a' := ?_) ?_ ?_
              rotate_left
              ·show Act.put _ (some 78) _ = _
               simp only [Act.put, List.setIfInBounds_toArray, List.set_cons_zero, List.set_cons_succ, i64_w, i32_w]
               rfl
              refine pu_ 6 (some 79) (bt_ 35 127) (any_of HT_.out (by kernel_rfl)) ?_
              refine pu_ 7 (some 80) (bt_ 35 255) (any_of HT_.out (by kernel_rfl)) ?_
              refine pu_ 8 (some 81) (bt_ 35 511) (any_of HT_.out (by kernel_rfl)) ?_
              refine pu_ 10 (some 83) (bt_ 35 1535) (any_of HT_.out (by kernel_rfl)) ?_
              refine tk_ 9 (some 82) (bt_ 35 2047) (take_ofW HT_.out HW_.out (by kernel_rfl)) hHeld ?_
              refine pu_ 11 (some 84) (bt_ 35 4095) (any_of HT_.out (by kernel_rfl)) ?_
              refine pu_ 12 (some 85) (bt_ 35 8191) (any_of HT_.out (by kernel_rfl)) ?_
              refine tk_ 13 (some 86) (bt_ 35 16383) (take_ofW HT_.out HW_.out (by kernel_rfl)) hHeld ?_
              refine pu_ 14 (some 87) (bt_ 35 32767) (any_of HT_.out (by kernel_rfl)) ?_
              refine pu_ 15 (some 88) (bt_ 35 65535) (any_of HT_.out (by kernel_rfl)) ?_
              refine pn_ 16 (some 89) (bt_ 35 131071) (any_of HT_.out (by kernel_rfl)) ?_
              refine pn_ 17 (some 90) (bt_ 35 262143) (any_of HT_.out (by kernel_rfl)) ?_
              refine pn_ 18 (some 91) (bt_ 35 524287) (any_of HT_.out (by kernel_rfl)) ?_
              refine pn_ 19 (some 92) (bt_ 35 1048575) (any_of HT_.out (by kernel_rfl)) ?_
              refine pn_ 20 (some 93) (bt_ 35 2097151) (any_of HT_.out (by kernel_rfl)) ?_
              refine pn_ 21 (some 94) (bt_ 35 4194303) (any_of HT_.out (by kernel_rfl)) ?_
              refine pn_ 22 (some 95) (bt_ 35 8388607) (any_of HT_.out (by kernel_rfl)) ?_
              refine pn_ 23 (some 96) (bt_ 35 16777215) (any_of HT_.out (by kernel_rfl)) ?_
              refine pn_ 24 (some 97) (bt_ 35 33554431) (any_of HT_.out (by kernel_rfl)) ?_
              refine pn_ 25 (some 98) (bt_ 35 67108863) (any_of HT_.out (by kernel_rfl)) ?_
              refine pn_ 26 (some 99) (bt_ 35 134217727) (any_of HT_.out (by kernel_rfl)) ?_
              refine pn_ 27 (some 100) (bt_ 35 268435455) (any_of HT_.out (by kernel_rfl)) ?_
              refine pn_ 28 (some 101) (bt_ 35 536870911) (any_of HT_.out (by kernel_rfl)) ?_
              refine pn_ 29 (some 102) (bt_ 35 1073741823) (any_of HT_.out (by kernel_rfl)) ?_
              refine pn_ 30 (some 103) (bt_ 35 2147483647) (any_of HT_.out (by kernel_rfl)) ?_
              refine pn_ 31 (some 104) (bt_ 35 4294967295) (any_of HT_.out (by kernel_rfl)) ?_
              refine pn_ 32 (some 105) (bt_ 35 8589934591) (any_of HT_.out (by kernel_rfl)) ?_
              refine pn_ 33 (some 106) (bt_ 35 17179869183) (any_of HT_.out (by kernel_rfl)) ?_
              refine pu_ 34 (some 107) (bt_ 35 34359738367) (any_of HT_.out (by kernel_rfl)) ?_
              refine done_ (done_of HT_.out (by kernel_rfl)) ?_
              try go_wp2
              go_meet
              case rel => exact ⟨_, (true), (by first | rfl | (simp; done) | (simp [*]; done)), H', ⟨by have := HJ1.out; have := HK2.out; have := HK3.out; first | omega | exact Nat.le_refl _⟩, ⟨bk_ ja.out⟩, ⟨hb_ HB.out⟩⟩
             ·replace c46 := Bool.eq_false_iff.mpr c46
              subst c46
              have H1 : (if x4_3 > 0 then (if 0 ≤ (wrap64 (x4_3 - 1)) then (if (wrap64 (x4_3 - 1)) < (l0_2.length : Int) then (spec_LockOk.j3 k3 x4_3 (decide (((rd_T45 l0_2 (wrap64 (x4_3 - 1))).f0) ≥ ((rd_T45 l0_2 x4_3).f0))) a0_0 l0_1 l0_2) else (none)) else (none)) else (spec_LockOk.j3 k3 x4_3 false a0_0 l0_1 l0_2)) = some r := by rw [if_neg (show ¬ (false = true) by decide)] at H; exact H
              clear H
              have H := H1
              clear H1
              by_cases c49 : x4_3 > 0
              ·rw [if_pos c49] at H
               have c49b0 : decide (0 < x4_3) = true := decide_eq_true c49
               clear c49
               obtain ⟨ji50, hji50⟩ : ∃ j_ : Int, (wrap64 (x4_3 - 1)) = j_ := ⟨_, rfl⟩
               replace H : (if 0 ≤ (ji50) then (if (ji50) < (l0_2.length : Int) then (spec_LockOk.j3 k3 x4_3 (decide (((rd_T45 l0_2 (ji50)).f0) ≥ ((rd_T45 l0_2 x4_3).f0))) a0_0 l0_1 l0_2) else (none)) else (none)) = some r := by first | (rw [hji50] at H; exact H) | (simp only [hji50] at H ⊢; exact H)
               (try rw [hji50] at A43)
               have hji50w : (IntKind.i64.wrap (x4_3 - 1)) = ji50 := (i64_w _).trans hji50
               by_cases c51 : 0 ≤ (ji50)
               ·rw [if_pos c51] at H
                have c51b0 : decide (0 ≤ (ji50)) = true := decide_eq_true c51
                clear c51
                by_cases c52 : (ji50) < (l0_2.length : Int)
                ·rw [if_pos c52] at H
                 have c52b0 : decide ((ji50) < (l0_2.length : Int)) = true := decide_eq_true c52
                 clear c52
                 have H' := Aside0.mk H
                 clear H
                 try go_wp2
                 have n0_ := Aside0.mk (blk_drew ja.out)
                 have n1_ := Aside0.mk (below_drew1 HB.out)
                 clear ja
                 clear HB
                 have ja := n0_
                 have HB := n1_
                 clear n0_ n1_
                 have jaa : 0 ≤ (x4_3 : Int) := of_decide_eq_true (by first | (with_reducible assumption) | assumption)
                 have jY : x4_3 < (l0_2.length : Int) := of_decide_eq_true (by first | (with_reducible assumption) | assumption)
                 obtain ⟨jd, jaI, jo, jp, jm, jl⟩ := at_T45 HR0_2.out x4_3 jaa jY
                 have js := jl
                 have jq := jm
                 have jz := jp
                 have jD := jo
                 (try rw [← Nbq45.out] at jm)
                 (try rw [← Nbq45.out] at jq)
                 (try rw [← Nbq45.out] at jl)
                 (try rw [← Nbq45.out] at js)
                 cases jaI
                 replace jo := (HB.out.cell (World.block_lt_of_cell? w _ jo)).trans jo
                 replace jp := (HB.out.cell (World.block_lt_of_cell? w _ jp)).trans jp
                 replace jm := (HB.out.cell (World.block_lt_of_cell? w _ jm)).trans jm
                 replace jl := (HB.out.cell (World.block_lt_of_cell? w _ jl)).trans jl
                 replace jaa := eq_true jaa
                 replace jY := eq_true jY
                 have jai : 0 ≤ (x4_3 : Int) := of_decide_eq_true (by first | (with_reducible assumption) | assumption)
                 have jah : x4_3 < (l0_2.length : Int) := of_decide_eq_true (by first | (with_reducible assumption) | assumption)
                 obtain ⟨jbh, jbd, jB, jw, jr, jt⟩ := at_T45 HR0_2.out x4_3 jai jah
                 have jP := jt
                 have jT := jr
                 have jag := jw
                 have jaf := jB
                 (try rw [← Nbq45.out] at jr)
                 (try rw [← Nbq45.out] at jT)
                 (try rw [← Nbq45.out] at jt)
                 (try rw [← Nbq45.out] at jP)
                 obtain rfl : jd = jbh := (by injection jbd)
                 replace jB := (HB.out.cell (World.block_lt_of_cell? w _ jB)).trans jB
                 replace jw := (HB.out.cell (World.block_lt_of_cell? w _ jw)).trans jw
                 replace jr := (HB.out.cell (World.block_lt_of_cell? w _ jr)).trans jr
                 replace jt := (HB.out.cell (World.block_lt_of_cell? w _ jt)).trans jt
                 replace jai := eq_true jai
                 replace jah := eq_true jah
                 have jbC : 0 ≤ ((ji50) : Int) := of_decide_eq_true (by first | (with_reducible assumption) | assumption)
                 have jby : (ji50) < (l0_2.length : Int) := of_decide_eq_true (by first | (with_reducible assumption) | assumption)
                 obtain ⟨jbM, jbI, jba, jaX, jaS, jaQ⟩ := at_T45 HR0_2.out (ji50) jbC jby
                 have jaZ := jaQ
                 have jbl := jaS
                 have jbr := jaX
                 have jbq := jba
                 (try rw [← Nbq45.out] at jaS)
                 (try rw [← Nbq45.out] at jbl)
                 (try rw [← Nbq45.out] at jaQ)
                 (try rw [← Nbq45.out] at jaZ)
                 obtain rfl : jd = jbM := (by injection jbI)
                 replace jba := (HB.out.cell (World.block_lt_of_cell? w _ jba)).trans jba
                 replace jaX := (HB.out.cell (World.block_lt_of_cell? w _ jaX)).trans jaX
                 replace jaS := (HB.out.cell (World.block_lt_of_cell? w _ jaS)).trans jaS
                 replace jaQ := (HB.out.cell (World.block_lt_of_cell? w _ jaQ)).trans jaQ
                 replace jbC := eq_true jbC
                 replace jby := eq_true jby
                 have jbB : 0 ≤ (x4_3 : Int) := of_decide_eq_true (by first | (with_reducible assumption) | assumption)
                 have jbx : x4_3 < (l0_2.length : Int) := of_decide_eq_true (by first | (with_reducible assumption) | assumption)
                 obtain ⟨jbJ, jbL, jbj, jbm, jaR, jaT⟩ := at_T45 HR0_2.out x4_3 jbB jbx
                 have jbn := jaT
                 have jbc := jaR
                 have jbu := jbm
                 have jbt := jbj
                 (try rw [← Nbq45.out] at jaR)
                 (try rw [← Nbq45.out] at jbc)
                 (try rw [← Nbq45.out] at jaT)
                 (try rw [← Nbq45.out] at jbn)
                 obtain rfl : jd = jbJ := (by injection jbL)
                 replace jbj := (HB.out.cell (World.block_lt_of_cell? w _ jbj)).trans jbj
                 replace jbm := (HB.out.cell (World.block_lt_of_cell? w _ jbm)).trans jbm
                 replace jaR := (HB.out.cell (World.block_lt_of_cell? w _ jaR)).trans jaR
                 replace jaT := (HB.out.cell (World.block_lt_of_cell? w _ jaT)).trans jaT
                 replace jbB := eq_true jbB
                 replace jbx := eq_true jbx
                 refine start_ (n := 35) (S := fun w' => w'.cell? ⟨jc, 0, none⟩ = some (.int .i64 a0_0) ∧ w'.cell? ⟨jc, 1, none⟩ = some (.slice A0_1 l0_1.length c0_1) ∧ w'.cell? ⟨jc, 2, none⟩ = some (.slice (some jd) l0_2.length c0_2) ∧ w'.cell? (jd.add ((x4_3).toNat * 4)) = some (.int .i64 ((rd_T45 l0_2 x4_3).f0)) ∧ w'.cell? ⟨(jd.add ((x4_3).toNat * 4)).block, (jd.add ((x4_3).toNat * 4)).off + 1, none⟩ = some (.int .i64 ((rd_T45 l0_2 x4_3).f1)) ∧ w'.cell? ⟨(jd.add ((x4_3).toNat * 4)).block, (jd.add ((x4_3).toNat * 4)).off + 2, none⟩ = some (.bool ((rd_T45 l0_2 x4_3).f2)) ∧ w'.cell? ⟨(jd.add ((x4_3).toNat * 4)).block, (jd.add ((x4_3).toNat * 4)).off + 3, none⟩ = some (.bool false) ∧ w'.cell? (jd.add ((x4_3).toNat * 4)) = some (.int .i64 ((rd_T45 l0_2 x4_3).f0)) ∧ w'.cell? ⟨(jd.add ((x4_3).toNat * 4)).block, (jd.add ((x4_3).toNat * 4)).off + 1, none⟩ = some (.int .i64 ((rd_T45 l0_2 x4_3).f1)) ∧ w'.cell? ⟨(jd.add ((x4_3).toNat * 4)).block, (jd.add ((x4_3).toNat * 4)).off + 2, none⟩ = some (.bool ((rd_T45 l0_2 x4_3).f2)) ∧ w'.cell? ⟨(jd.add ((x4_3).toNat * 4)).block, (jd.add ((x4_3).toNat * 4)).off + 3, none⟩ = some (.bool false) ∧ w'.cell? (jd.add (((ji50)).toNat * 4)) = some (.int .i64 ((rd_T45 l0_2 (ji50)).f0)) ∧ w'.cell? ⟨(jd.add (((ji50)).toNat * 4)).block, (jd.add (((ji50)).toNat * 4)).off + 1, none⟩ = some (.int .i64 ((rd_T45 l0_2 (ji50)).f1)) ∧ w'.cell? ⟨(jd.add (((ji50)).toNat * 4)).block, (jd.add (((ji50)).toNat * 4)).off + 2, none⟩ = some (.bool ((rd_T45 l0_2 (ji50)).f2)) ∧ w'.cell? ⟨(jd.add (((ji50)).toNat * 4)).block, (jd.add (((ji50)).toNat * 4)).off + 3, none⟩ = some (.bool ((rd_T45 l0_2 (ji50)).f3)) ∧ w'.cell? (jd.add ((x4_3).toNat * 4)) = some (.int .i64 ((rd_T45 l0_2 x4_3).f0)) ∧ w'.cell? ⟨(jd.add ((x4_3).toNat * 4)).block, (jd.add ((x4_3).toNat * 4)).off + 1, none⟩ = some (.int .i64 ((rd_T45 l0_2 x4_3).f1)) ∧ w'.cell? ⟨(jd.add ((x4_3).toNat * 4)).block, (jd.add ((x4_3).toNat * 4)).off + 2, none⟩ = some (.bool ((rd_T45 l0_2 x4_3).f2)) ∧ w'.cell? ⟨(jd.add ((x4_3).toNat * 4)).block, (jd.add ((x4_3).toNat * 4)).off + 3, none⟩ = some (.bool (false))) (ds := []) (bt_ 35 0) (by kernel_rfl) rfl rfl ⟨(blk_cell ja.out 0).trans rfl, (blk_cell ja.out 1).trans rfl, (blk_cell ja.out 2).trans rfl, ((HB.out.cell (World.block_lt_of_cell? w _ jD)).trans jD), ((HB.out.cell (World.block_lt_of_cell? w _ jz)).trans jz), ((HB.out.cell (World.block_lt_of_cell? w _ jq)).trans jq), ((HB.out.cell (World.block_lt_of_cell? w _ js)).trans js), ((HB.out.cell (World.block_lt_of_cell? w _ jaf)).trans jaf), ((HB.out.cell (World.block_lt_of_cell? w _ jag)).trans jag), ((HB.out.cell (World.block_lt_of_cell? w _ jT)).trans jT), ((HB.out.cell (World.block_lt_of_cell? w _ jP)).trans jP), ((HB.out.cell (World.block_lt_of_cell? w _ jbq)).trans jbq), ((HB.out.cell (World.block_lt_of_cell? w _ jbr)).trans jbr), ((HB.out.cell (World.block_lt_of_cell? w _ jbl)).trans jbl), ((HB.out.cell (World.block_lt_of_cell? w _ jaZ)).trans jaZ), ((HB.out.cell (World.block_lt_of_cell? w _ jbt)).trans jbt), ((HB.out.cell (World.block_lt_of_cell? w _ jbu)).trans jbu), ((HB.out.cell (World.block_lt_of_cell? w _ jbc)).trans jbc), ((HB.out.cell (World.block_lt_of_cell? w _ jbn)).trans jbn)⟩ (fun hHeld => ?_); refine with_tabW spec_LockOk.tab11 spec_LockOk.bits11 (fun HT_ HW_ => ?_)
                 generalize wr.drew = w53 at ja HB jo jp jm jl jB jw jr jt jba jaX jaS jaQ jbj jbm jaR jaT hHeld ⊢
                 refine pu_ 0 (some 73) (bt_ 35 1) (any_of HT_.out (by kernel_rfl)) ?_
                 refine pu_ 2 (some 75) (bt_ 35 5) (any_of HT_.out (by kernel_rfl)) ?_
                 refine tk_ 1 (some 74) (bt_ 35 7) (take_ofW HT_.out HW_.out (by kernel_rfl)) hHeld ?_
                 refine pu_ 3 (some 76) (bt_ 35 15) (any_of HT_.out (by kernel_rfl)) ?_
                 refine tk_ 4 (some 77) (bt_ 35 31) (take_ofW HT_.out HW_.out (by kernel_rfl)) hHeld ?_
                 refine one_ (i := 5) (N := some 78) (bt_ 35 63) rfl rfl (one_of HT_.out (by kernel_rfl)) (by decide) (fun K hK => ?_)
                 refine goes_ Try.func39 (by kernel_rfl) rfl #[.agg #[.int .i64 ((rd_T45 l0_2 x4_3).f0), .int .i64 ((rd_T45 l0_2 x4_3).f1), .bool ((rd_T45 l0_2 x4_3).f2), .bool false]] (by rfl) rfl rfl (by (try simp only [List.map_toArray, List.map_cons, List.map_nil]); first | done | rfl | (simp only [List.length_drop, List.length_take]; rfl)) ?_
                 with_reducible refine (spec_l11HoldOk.calls ((rd_T45 l0_2 x4_3).f0) ((rd_T45 l0_2 x4_3).f1) ((rd_T45 l0_2 x4_3).f2) false true _ (by first | exact A43.out | (have h_ := A43.out; rw [← Nbq45.out] at h_; exact h_))).mono ?_
                 rintro e w54 ⟨rfl, hb⟩
                 refine ⟨_, rfl, ?_⟩
                 have n0_ := Aside0.mk (blk_below (bk_ ja.out) hb)
                 have n1_ := Aside0.mk (below_step (hb_ HB.out) hb)
                 clear ja
                 clear HB
                 have ja := n0_
                 have HB := n1_
                 clear n0_ n1_
                 (try clear hb)
                 (try clear hb2)
                 (try clear hk)
                 (try clear hi)
                 refine hK.out _ _ ⟨(blk_cell ja.out 0).trans rfl, (blk_cell ja.out 1).trans rfl, (blk_cell ja.out 2).trans rfl, ((HB.out.cell (World.block_lt_of_cell? w _ jD)).trans jD), ((HB.out.cell (World.block_lt_of_cell? w _ jz)).trans jz), ((HB.out.cell (World.block_lt_of_cell? w _ jq)).trans jq), ((HB.out.cell (World.block_lt_of_cell? w _ js)).trans js), ((HB.out.cell (World.block_lt_of_cell? w _ jaf)).trans jaf), ((HB.out.cell (World.block_lt_of_cell? w _ jag)).trans jag), ((HB.out.cell (World.block_lt_of_cell? w _ jT)).trans jT), ((HB.out.cell (World.block_lt_of_cell? w _ jP)).trans jP), ((HB.out.cell (World.block_lt_of_cell? w _ jbq)).trans jbq), ((HB.out.cell (World.block_lt_of_cell? w _ jbr)).trans jbr), ((HB.out.cell (World.block_lt_of_cell? w _ jbl)).trans jbl), ((HB.out.cell (World.block_lt_of_cell? w _ jaZ)).trans jaZ), ((HB.out.cell (World.block_lt_of_cell? w _ jbt)).trans jbt), ((HB.out.cell (World.block_lt_of_cell? w _ jbu)).trans jbu), ((HB.out.cell (World.block_lt_of_cell? w _ jbc)).trans jbc), ((HB.out.cell (World.block_lt_of_cell? w _ jbn)).trans jbn)⟩ (fun hHeld => ?_)
                 clear hK K
                 refine norm_ (a' := ?_) ?_ ?_
                 rotate_left
                 ·show Act.put _ (some 78) _ = _
                  simp only [Act.put, List.setIfInBounds_toArray, List.set_cons_zero, List.set_cons_succ, i64_w, i32_w]
                  rfl
                 refine pu_ 6 (some 79) (bt_ 35 127) (any_of HT_.out (by kernel_rfl)) ?_
                 refine pu_ 7 (some 80) (bt_ 35 255) (any_of HT_.out (by kernel_rfl)) ?_
                 refine pu_ 8 (some 81) (bt_ 35 511) (any_of HT_.out (by kernel_rfl)) ?_
                 refine pu_ 10 (some 83) (bt_ 35 1535) (any_of HT_.out (by kernel_rfl)) ?_
                 refine tk_ 9 (some 82) (bt_ 35 2047) (take_ofW HT_.out HW_.out (by kernel_rfl)) hHeld ?_
                 refine pu_ 11 (some 84) (bt_ 35 4095) (any_of HT_.out (by kernel_rfl)) ?_
                 refine pu_ 12 (some 85) (bt_ 35 8191) (any_of HT_.out (by kernel_rfl)) ?_
                 refine tk_ 13 (some 86) (bt_ 35 16383) (take_ofW HT_.out HW_.out (by kernel_rfl)) hHeld ?_
                 refine pu_ 14 (some 87) (bt_ 35 32767) (any_of HT_.out (by kernel_rfl)) ?_
                 refine pu_ 15 (some 88) (bt_ 35 65535) (any_of HT_.out (by kernel_rfl)) ?_
                 refine pu_ 16 (some 89) (bt_ 35 131071) (any_of HT_.out (by kernel_rfl)) ?_
                 refine pu_ 17 (some 90) (bt_ 35 262143) (any_of HT_.out (by kernel_rfl)) ?_
                 refine pu_ 18 (some 91) (bt_ 35 524287) (any_of HT_.out (by kernel_rfl)) ?_
                 refine pu_ 19 (some 92) (bt_ 35 1048575) (any_of HT_.out (by kernel_rfl)) ?_
                 refine pu_ 21 (some 94) (bt_ 35 3145727) (any_of HT_.out (by kernel_rfl)) ?_
                 refine pu_ 22 (some 95) (bt_ 35 7340031) (any_of HT_.out (by kernel_rfl)) ?_
                 refine pu_ 26 (some 99) (bt_ 35 74448895) (any_of HT_.out (by kernel_rfl)) ?_
                 refine pu_ 28 (some 101) (bt_ 35 342884351) (any_of HT_.out (by kernel_rfl)) ?_
                 refine tk_ 20 (some 93) (bt_ 35 343932927) (take_ofW HT_.out HW_.out (by kernel_rfl)) hHeld ?_
                 refine pu_ 23 (some 96) (bt_ 35 352321535) (any_of HT_.out (by kernel_rfl)) ?_
                 refine pu_ 24 (some 97) (bt_ 35 369098751) (any_of HT_.out (by kernel_rfl)) ?_
                 refine tk_ 25 (some 98) (bt_ 35 402653183) (take_ofW HT_.out HW_.out (by kernel_rfl)) hHeld ?_
                 refine tk_ 27 (some 100) (bt_ 35 536870911) (take_ofW HT_.out HW_.out (by kernel_rfl)) hHeld ?_
                 refine pu_ 29 (some 102) (bt_ 35 1073741823) (any_of HT_.out (by kernel_rfl)) ?_
                 refine pu_ 30 (some 103) (bt_ 35 2147483647) (any_of HT_.out (by kernel_rfl)) ?_
                 refine tk_ 31 (some 104) (bt_ 35 4294967295) (take_ofW HT_.out HW_.out (by kernel_rfl)) hHeld ?_
                 refine pu_ 32 (some 105) (bt_ 35 8589934591) (any_of HT_.out (by kernel_rfl)) ?_
                 refine pu_ 33 (some 106) (bt_ 35 17179869183) (any_of HT_.out (by kernel_rfl)) ?_
                 refine pu_ 34 (some 107) (bt_ 35 34359738367) (any_of HT_.out (by kernel_rfl)) ?_
                 refine done_ (done_of HT_.out (by kernel_rfl)) ?_
                 try go_wp2
                 go_meet
                 case rel => exact ⟨_, (decide (((rd_T45 l0_2 (ji50)).f0) ≥ ((rd_T45 l0_2 x4_3).f0))), (by first | rfl | (simp; done) | (simp only [← hji50] <;> (first | rfl | simp)) | (simp [*]; done)), H', ⟨by have := HJ1.out; have := HK2.out; have := HK3.out; first | omega | exact Nat.le_refl _⟩, ⟨bk_ ja.out⟩, ⟨hb_ HB.out⟩⟩
                ·rw [if_neg c52] at H
                 exact absurd H (by simp)
               ·rw [if_neg c51] at H
                exact absurd H (by simp)
              ·rw [if_neg c49] at H
               have c49b0 : decide (0 < x4_3) = false := decide_eq_false c49
               clear c49
               have H' := Aside0.mk H
               clear H
               try go_wp2
               have n0_ := Aside0.mk (blk_drew ja.out)
               have n1_ := Aside0.mk (below_drew1 HB.out)
               clear ja
               clear HB
               have ja := n0_
               have HB := n1_
               clear n0_ n1_
               have jaa : 0 ≤ (x4_3 : Int) := of_decide_eq_true (by first | (with_reducible assumption) | assumption)
               have jY : x4_3 < (l0_2.length : Int) := of_decide_eq_true (by first | (with_reducible assumption) | assumption)
               obtain ⟨jd, jaI, jo, jp, jm, jl⟩ := at_T45 HR0_2.out x4_3 jaa jY
               have js := jl
               have jq := jm
               have jz := jp
               have jD := jo
               (try rw [← Nbq45.out] at jm)
               (try rw [← Nbq45.out] at jq)
               (try rw [← Nbq45.out] at jl)
               (try rw [← Nbq45.out] at js)
               cases jaI
               replace jo := (HB.out.cell (World.block_lt_of_cell? w _ jo)).trans jo
               replace jp := (HB.out.cell (World.block_lt_of_cell? w _ jp)).trans jp
               replace jm := (HB.out.cell (World.block_lt_of_cell? w _ jm)).trans jm
               replace jl := (HB.out.cell (World.block_lt_of_cell? w _ jl)).trans jl
               replace jaa := eq_true jaa
               replace jY := eq_true jY
               have jai : 0 ≤ (x4_3 : Int) := of_decide_eq_true (by first | (with_reducible assumption) | assumption)
               have jah : x4_3 < (l0_2.length : Int) := of_decide_eq_true (by first | (with_reducible assumption) | assumption)
               obtain ⟨jbh, jbd, jB, jw, jr, jt⟩ := at_T45 HR0_2.out x4_3 jai jah
               have jP := jt
               have jT := jr
               have jag := jw
               have jaf := jB
               (try rw [← Nbq45.out] at jr)
               (try rw [← Nbq45.out] at jT)
               (try rw [← Nbq45.out] at jt)
               (try rw [← Nbq45.out] at jP)
               obtain rfl : jd = jbh := (by injection jbd)
               replace jB := (HB.out.cell (World.block_lt_of_cell? w _ jB)).trans jB
               replace jw := (HB.out.cell (World.block_lt_of_cell? w _ jw)).trans jw
               replace jr := (HB.out.cell (World.block_lt_of_cell? w _ jr)).trans jr
               replace jt := (HB.out.cell (World.block_lt_of_cell? w _ jt)).trans jt
               replace jai := eq_true jai
               replace jah := eq_true jah
               refine start_ (n := 35) (S := fun w' => w'.cell? ⟨jc, 0, none⟩ = some (.int .i64 a0_0) ∧ w'.cell? ⟨jc, 1, none⟩ = some (.slice A0_1 l0_1.length c0_1) ∧ w'.cell? ⟨jc, 2, none⟩ = some (.slice (some jd) l0_2.length c0_2) ∧ w'.cell? (jd.add ((x4_3).toNat * 4)) = some (.int .i64 ((rd_T45 l0_2 x4_3).f0)) ∧ w'.cell? ⟨(jd.add ((x4_3).toNat * 4)).block, (jd.add ((x4_3).toNat * 4)).off + 1, none⟩ = some (.int .i64 ((rd_T45 l0_2 x4_3).f1)) ∧ w'.cell? ⟨(jd.add ((x4_3).toNat * 4)).block, (jd.add ((x4_3).toNat * 4)).off + 2, none⟩ = some (.bool ((rd_T45 l0_2 x4_3).f2)) ∧ w'.cell? ⟨(jd.add ((x4_3).toNat * 4)).block, (jd.add ((x4_3).toNat * 4)).off + 3, none⟩ = some (.bool false) ∧ w'.cell? (jd.add ((x4_3).toNat * 4)) = some (.int .i64 ((rd_T45 l0_2 x4_3).f0)) ∧ w'.cell? ⟨(jd.add ((x4_3).toNat * 4)).block, (jd.add ((x4_3).toNat * 4)).off + 1, none⟩ = some (.int .i64 ((rd_T45 l0_2 x4_3).f1)) ∧ w'.cell? ⟨(jd.add ((x4_3).toNat * 4)).block, (jd.add ((x4_3).toNat * 4)).off + 2, none⟩ = some (.bool ((rd_T45 l0_2 x4_3).f2)) ∧ w'.cell? ⟨(jd.add ((x4_3).toNat * 4)).block, (jd.add ((x4_3).toNat * 4)).off + 3, none⟩ = some (.bool false)) (ds := []) (bt_ 35 0) (by kernel_rfl) rfl rfl ⟨(blk_cell ja.out 0).trans rfl, (blk_cell ja.out 1).trans rfl, (blk_cell ja.out 2).trans rfl, ((HB.out.cell (World.block_lt_of_cell? w _ jD)).trans jD), ((HB.out.cell (World.block_lt_of_cell? w _ jz)).trans jz), ((HB.out.cell (World.block_lt_of_cell? w _ jq)).trans jq), ((HB.out.cell (World.block_lt_of_cell? w _ js)).trans js), ((HB.out.cell (World.block_lt_of_cell? w _ jaf)).trans jaf), ((HB.out.cell (World.block_lt_of_cell? w _ jag)).trans jag), ((HB.out.cell (World.block_lt_of_cell? w _ jT)).trans jT), ((HB.out.cell (World.block_lt_of_cell? w _ jP)).trans jP)⟩ (fun hHeld => ?_); refine with_tabW spec_LockOk.tab11 spec_LockOk.bits11 (fun HT_ HW_ => ?_)
               generalize wr.drew = w55 at ja HB jo jp jm jl jB jw jr jt hHeld ⊢
               refine pu_ 0 (some 73) (bt_ 35 1) (any_of HT_.out (by kernel_rfl)) ?_
               refine pu_ 2 (some 75) (bt_ 35 5) (any_of HT_.out (by kernel_rfl)) ?_
               refine tk_ 1 (some 74) (bt_ 35 7) (take_ofW HT_.out HW_.out (by kernel_rfl)) hHeld ?_
               refine pu_ 3 (some 76) (bt_ 35 15) (any_of HT_.out (by kernel_rfl)) ?_
               refine tk_ 4 (some 77) (bt_ 35 31) (take_ofW HT_.out HW_.out (by kernel_rfl)) hHeld ?_
               refine one_ (i := 5) (N := some 78) (bt_ 35 63) rfl rfl (one_of HT_.out (by kernel_rfl)) (by decide) (fun K hK => ?_)
               refine goes_ Try.func39 (by kernel_rfl) rfl #[.agg #[.int .i64 ((rd_T45 l0_2 x4_3).f0), .int .i64 ((rd_T45 l0_2 x4_3).f1), .bool ((rd_T45 l0_2 x4_3).f2), .bool false]] (by rfl) rfl rfl (by (try simp only [List.map_toArray, List.map_cons, List.map_nil]); first | done | rfl | (simp only [List.length_drop, List.length_take]; rfl)) ?_
               with_reducible refine (spec_l11HoldOk.calls ((rd_T45 l0_2 x4_3).f0) ((rd_T45 l0_2 x4_3).f1) ((rd_T45 l0_2 x4_3).f2) false true _ (by first | exact A43.out | (have h_ := A43.out; rw [← Nbq45.out] at h_; exact h_))).mono ?_
               rintro e w56 ⟨rfl, hb⟩
               refine ⟨_, rfl, ?_⟩
               have n0_ := Aside0.mk (blk_below (bk_ ja.out) hb)
               have n1_ := Aside0.mk (below_step (hb_ HB.out) hb)
               clear ja
               clear HB
               have ja := n0_
               have HB := n1_
               clear n0_ n1_
               (try clear hb)
               (try clear hb2)
               (try clear hk)
               (try clear hi)
               refine hK.out _ _ ⟨(blk_cell ja.out 0).trans rfl, (blk_cell ja.out 1).trans rfl, (blk_cell ja.out 2).trans rfl, ((HB.out.cell (World.block_lt_of_cell? w _ jD)).trans jD), ((HB.out.cell (World.block_lt_of_cell? w _ jz)).trans jz), ((HB.out.cell (World.block_lt_of_cell? w _ jq)).trans jq), ((HB.out.cell (World.block_lt_of_cell? w _ js)).trans js), ((HB.out.cell (World.block_lt_of_cell? w _ jaf)).trans jaf), ((HB.out.cell (World.block_lt_of_cell? w _ jag)).trans jag), ((HB.out.cell (World.block_lt_of_cell? w _ jT)).trans jT), ((HB.out.cell (World.block_lt_of_cell? w _ jP)).trans jP)⟩ (fun hHeld => ?_)
               clear hK K
               refine norm_ (a' := ?_) ?_ ?_
               rotate_left
               ·show Act.put _ (some 78) _ = _
                simp only [Act.put, List.setIfInBounds_toArray, List.set_cons_zero, List.set_cons_succ, i64_w, i32_w]
                rfl
               refine pu_ 6 (some 79) (bt_ 35 127) (any_of HT_.out (by kernel_rfl)) ?_
               refine pu_ 7 (some 80) (bt_ 35 255) (any_of HT_.out (by kernel_rfl)) ?_
               refine pu_ 8 (some 81) (bt_ 35 511) (any_of HT_.out (by kernel_rfl)) ?_
               refine pu_ 10 (some 83) (bt_ 35 1535) (any_of HT_.out (by kernel_rfl)) ?_
               refine tk_ 9 (some 82) (bt_ 35 2047) (take_ofW HT_.out HW_.out (by kernel_rfl)) hHeld ?_
               refine pu_ 11 (some 84) (bt_ 35 4095) (any_of HT_.out (by kernel_rfl)) ?_
               refine pu_ 12 (some 85) (bt_ 35 8191) (any_of HT_.out (by kernel_rfl)) ?_
               refine tk_ 13 (some 86) (bt_ 35 16383) (take_ofW HT_.out HW_.out (by kernel_rfl)) hHeld ?_
               refine pu_ 14 (some 87) (bt_ 35 32767) (any_of HT_.out (by kernel_rfl)) ?_
               refine pu_ 15 (some 88) (bt_ 35 65535) (any_of HT_.out (by kernel_rfl)) ?_
               refine pu_ 16 (some 89) (bt_ 35 131071) (any_of HT_.out (by kernel_rfl)) ?_
               refine pu_ 17 (some 90) (bt_ 35 262143) (any_of HT_.out (by kernel_rfl)) ?_
               refine pu_ 18 (some 91) (bt_ 35 524287) (any_of HT_.out (by kernel_rfl)) ?_
               refine pn_ 19 (some 92) (bt_ 35 1048575) (any_of HT_.out (by kernel_rfl)) ?_
               refine pn_ 20 (some 93) (bt_ 35 2097151) (any_of HT_.out (by kernel_rfl)) ?_
               refine pn_ 21 (some 94) (bt_ 35 4194303) (any_of HT_.out (by kernel_rfl)) ?_
               refine pn_ 22 (some 95) (bt_ 35 8388607) (any_of HT_.out (by kernel_rfl)) ?_
               refine pn_ 23 (some 96) (bt_ 35 16777215) (any_of HT_.out (by kernel_rfl)) ?_
               refine pn_ 24 (some 97) (bt_ 35 33554431) (any_of HT_.out (by kernel_rfl)) ?_
               refine pn_ 25 (some 98) (bt_ 35 67108863) (any_of HT_.out (by kernel_rfl)) ?_
               refine pn_ 26 (some 99) (bt_ 35 134217727) (any_of HT_.out (by kernel_rfl)) ?_
               refine pn_ 27 (some 100) (bt_ 35 268435455) (any_of HT_.out (by kernel_rfl)) ?_
               refine pn_ 28 (some 101) (bt_ 35 536870911) (any_of HT_.out (by kernel_rfl)) ?_
               refine pn_ 29 (some 102) (bt_ 35 1073741823) (any_of HT_.out (by kernel_rfl)) ?_
               refine pn_ 30 (some 103) (bt_ 35 2147483647) (any_of HT_.out (by kernel_rfl)) ?_
               refine pn_ 31 (some 104) (bt_ 35 4294967295) (any_of HT_.out (by kernel_rfl)) ?_
               refine pn_ 32 (some 105) (bt_ 35 8589934591) (any_of HT_.out (by kernel_rfl)) ?_
               refine pu_ 33 (some 106) (bt_ 35 17179869183) (any_of HT_.out (by kernel_rfl)) ?_
               refine pu_ 34 (some 107) (bt_ 35 34359738367) (any_of HT_.out (by kernel_rfl)) ?_
               refine done_ (done_of HT_.out (by kernel_rfl)) ?_
               try go_wp2
               go_meet
               case rel => exact ⟨_, (false), (by first | rfl | (simp; done) | (simp [*]; done)), H', ⟨by have := HJ1.out; have := HK2.out; have := HK3.out; first | omega | exact Nat.le_refl _⟩, ⟨bk_ ja.out⟩, ⟨hb_ HB.out⟩⟩
            ·replace c44 := Bool.eq_false_iff.mpr c44
             subst c44
             have H1 : (spec_LockOk.j3 k3 x4_3 true a0_0 l0_1 l0_2) = some r := by rw [if_neg (show ¬ (false = true) by decide)] at H; exact H
             clear H
             have H := H1
             clear H1
             have H' := Aside0.mk H
             clear H
             try go_wp2
             have n0_ := Aside0.mk (blk_drew ja.out)
             have n1_ := Aside0.mk (below_drew1 HB.out)
             clear ja
             clear HB
             have ja := n0_
             have HB := n1_
             clear n0_ n1_
             have jaa : 0 ≤ (x4_3 : Int) := of_decide_eq_true (by first | (with_reducible assumption) | assumption)
             have jY : x4_3 < (l0_2.length : Int) := of_decide_eq_true (by first | (with_reducible assumption) | assumption)
             obtain ⟨jd, jaI, jo, jp, jm, jl⟩ := at_T45 HR0_2.out x4_3 jaa jY
             have js := jl
             have jq := jm
             have jz := jp
             have jD := jo
             cases jaI
             replace jo := (HB.out.cell (World.block_lt_of_cell? w _ jo)).trans jo
             replace jp := (HB.out.cell (World.block_lt_of_cell? w _ jp)).trans jp
             replace jm := (HB.out.cell (World.block_lt_of_cell? w _ jm)).trans jm
             replace jl := (HB.out.cell (World.block_lt_of_cell? w _ jl)).trans jl
             replace jaa := eq_true jaa
             replace jY := eq_true jY
             refine start_ (n := 35) (S := fun w' => w'.cell? ⟨jc, 0, none⟩ = some (.int .i64 a0_0) ∧ w'.cell? ⟨jc, 1, none⟩ = some (.slice A0_1 l0_1.length c0_1) ∧ w'.cell? ⟨jc, 2, none⟩ = some (.slice (some jd) l0_2.length c0_2) ∧ w'.cell? (jd.add ((x4_3).toNat * 4)) = some (.int .i64 ((rd_T45 l0_2 x4_3).f0)) ∧ w'.cell? ⟨(jd.add ((x4_3).toNat * 4)).block, (jd.add ((x4_3).toNat * 4)).off + 1, none⟩ = some (.int .i64 ((rd_T45 l0_2 x4_3).f1)) ∧ w'.cell? ⟨(jd.add ((x4_3).toNat * 4)).block, (jd.add ((x4_3).toNat * 4)).off + 2, none⟩ = some (.bool ((rd_T45 l0_2 x4_3).f2)) ∧ w'.cell? ⟨(jd.add ((x4_3).toNat * 4)).block, (jd.add ((x4_3).toNat * 4)).off + 3, none⟩ = some (.bool ((rd_T45 l0_2 x4_3).f3))) (ds := []) (bt_ 35 0) (by kernel_rfl) rfl rfl ⟨(blk_cell ja.out 0).trans rfl, (blk_cell ja.out 1).trans rfl, (blk_cell ja.out 2).trans rfl, ((HB.out.cell (World.block_lt_of_cell? w _ jD)).trans jD), ((HB.out.cell (World.block_lt_of_cell? w _ jz)).trans jz), ((HB.out.cell (World.block_lt_of_cell? w _ jq)).trans jq), ((HB.out.cell (World.block_lt_of_cell? w _ js)).trans js)⟩ (fun hHeld => ?_); refine with_tabW spec_LockOk.tab11 spec_LockOk.bits11 (fun HT_ HW_ => ?_)
             generalize wr.drew = w57 at ja HB jo jp jm jl hHeld ⊢
             refine pu_ 0 (some 73) (bt_ 35 1) (any_of HT_.out (by kernel_rfl)) ?_
             refine pu_ 2 (some 75) (bt_ 35 5) (any_of HT_.out (by kernel_rfl)) ?_
             refine tk_ 1 (some 74) (bt_ 35 7) (take_ofW HT_.out HW_.out (by kernel_rfl)) hHeld ?_
             refine pu_ 3 (some 76) (bt_ 35 15) (any_of HT_.out (by kernel_rfl)) ?_
             refine tk_ 4 (some 77) (bt_ 35 31) (take_ofW HT_.out HW_.out (by kernel_rfl)) hHeld ?_
             refine one_ (i := 5) (N := some 78) (bt_ 35 63) rfl rfl (one_of HT_.out (by kernel_rfl)) (by decide) (fun K hK => ?_)
             refine goes_ Try.func39 (by kernel_rfl) rfl #[.agg #[.int .i64 ((rd_T45 l0_2 x4_3).f0), .int .i64 ((rd_T45 l0_2 x4_3).f1), .bool ((rd_T45 l0_2 x4_3).f2), .bool ((rd_T45 l0_2 x4_3).f3)]] (by rfl) rfl rfl (by (try simp only [List.map_toArray, List.map_cons, List.map_nil]); first | done | rfl | (simp only [List.length_drop, List.length_take]; rfl)) ?_
             with_reducible refine (spec_l11HoldOk.calls ((rd_T45 l0_2 x4_3).f0) ((rd_T45 l0_2 x4_3).f1) ((rd_T45 l0_2 x4_3).f2) ((rd_T45 l0_2 x4_3).f3) false _ (by first | exact A43.out | (have h_ := A43.out; rw [← Nbq45.out] at h_; exact h_))).mono ?_
             rintro e w58 ⟨rfl, hb⟩
             refine ⟨_, rfl, ?_⟩
             have n0_ := Aside0.mk (blk_below (bk_ ja.out) hb)
             have n1_ := Aside0.mk (below_step (hb_ HB.out) hb)
             clear ja
             clear HB
             have ja := n0_
             have HB := n1_
             clear n0_ n1_
             (try clear hb)
             (try clear hb2)
             (try clear hk)
             (try clear hi)
             refine hK.out _ _ ⟨(blk_cell ja.out 0).trans rfl, (blk_cell ja.out 1).trans rfl, (blk_cell ja.out 2).trans rfl, ((HB.out.cell (World.block_lt_of_cell? w _ jD)).trans jD), ((HB.out.cell (World.block_lt_of_cell? w _ jz)).trans jz), ((HB.out.cell (World.block_lt_of_cell? w _ jq)).trans jq), ((HB.out.cell (World.block_lt_of_cell? w _ js)).trans js)⟩ (fun hHeld => ?_)
             clear hK K
             refine norm_ (a' := ?_) ?_ ?_
             rotate_left
             ·show Act.put _ (some 78) _ = _
              simp only [Act.put, List.setIfInBounds_toArray, List.set_cons_zero, List.set_cons_succ, i64_w, i32_w]
              rfl
             refine pu_ 6 (some 79) (bt_ 35 127) (any_of HT_.out (by kernel_rfl)) ?_
             refine pu_ 7 (some 80) (bt_ 35 255) (any_of HT_.out (by kernel_rfl)) ?_
             refine pn_ 8 (some 81) (bt_ 35 511) (any_of HT_.out (by kernel_rfl)) ?_
             refine pn_ 9 (some 82) (bt_ 35 1023) (any_of HT_.out (by kernel_rfl)) ?_
             refine pn_ 10 (some 83) (bt_ 35 2047) (any_of HT_.out (by kernel_rfl)) ?_
             refine pn_ 11 (some 84) (bt_ 35 4095) (any_of HT_.out (by kernel_rfl)) ?_
             refine pn_ 12 (some 85) (bt_ 35 8191) (any_of HT_.out (by kernel_rfl)) ?_
             refine pn_ 13 (some 86) (bt_ 35 16383) (any_of HT_.out (by kernel_rfl)) ?_
             refine pu_ 14 (some 87) (bt_ 35 32767) (any_of HT_.out (by kernel_rfl)) ?_
             refine pu_ 15 (some 88) (bt_ 35 65535) (any_of HT_.out (by kernel_rfl)) ?_
             refine pn_ 16 (some 89) (bt_ 35 131071) (any_of HT_.out (by kernel_rfl)) ?_
             refine pn_ 17 (some 90) (bt_ 35 262143) (any_of HT_.out (by kernel_rfl)) ?_
             refine pn_ 18 (some 91) (bt_ 35 524287) (any_of HT_.out (by kernel_rfl)) ?_
             refine pn_ 19 (some 92) (bt_ 35 1048575) (any_of HT_.out (by kernel_rfl)) ?_
             refine pn_ 20 (some 93) (bt_ 35 2097151) (any_of HT_.out (by kernel_rfl)) ?_
             refine pn_ 21 (some 94) (bt_ 35 4194303) (any_of HT_.out (by kernel_rfl)) ?_
             refine pn_ 22 (some 95) (bt_ 35 8388607) (any_of HT_.out (by kernel_rfl)) ?_
             refine pn_ 23 (some 96) (bt_ 35 16777215) (any_of HT_.out (by kernel_rfl)) ?_
             refine pn_ 24 (some 97) (bt_ 35 33554431) (any_of HT_.out (by kernel_rfl)) ?_
             refine pn_ 25 (some 98) (bt_ 35 67108863) (any_of HT_.out (by kernel_rfl)) ?_
             refine pn_ 26 (some 99) (bt_ 35 134217727) (any_of HT_.out (by kernel_rfl)) ?_
             refine pn_ 27 (some 100) (bt_ 35 268435455) (any_of HT_.out (by kernel_rfl)) ?_
             refine pn_ 28 (some 101) (bt_ 35 536870911) (any_of HT_.out (by kernel_rfl)) ?_
             refine pn_ 29 (some 102) (bt_ 35 1073741823) (any_of HT_.out (by kernel_rfl)) ?_
             refine pn_ 30 (some 103) (bt_ 35 2147483647) (any_of HT_.out (by kernel_rfl)) ?_
             refine pn_ 31 (some 104) (bt_ 35 4294967295) (any_of HT_.out (by kernel_rfl)) ?_
             refine pn_ 32 (some 105) (bt_ 35 8589934591) (any_of HT_.out (by kernel_rfl)) ?_
             refine pn_ 33 (some 106) (bt_ 35 17179869183) (any_of HT_.out (by kernel_rfl)) ?_
             refine pu_ 34 (some 107) (bt_ 35 34359738367) (any_of HT_.out (by kernel_rfl)) ?_
             refine done_ (done_of HT_.out (by kernel_rfl)) ?_
             try go_wp2
             go_meet
             case rel => exact ⟨_, (true), (by first | rfl | (simp; done) | (simp [*]; done)), H', ⟨by have := HJ1.out; have := HK2.out; have := HK3.out; first | omega | exact Nat.le_refl _⟩, ⟨bk_ ja.out⟩, ⟨hb_ HB.out⟩⟩
           ·rw [if_neg c42] at H
            exact absurd H (by simp)
          case rest =>
           clear HC40
           try clear p1
           try clear q1
           try clear hx1
           try clear p2
           try clear c3
           try clear c4
           try clear q4
           try clear c5
           try clear p17
           try clear q17
           try clear hx17
           try clear c39
           try clear c42
           try clear c44
           try clear q45
           try clear c49
           try clear c49b0
           try clear c51
           try clear c52
           try clear jo
           try clear jp
           try clear jm
           try clear jl
           try clear jB
           try clear jw
           try clear jr
           try clear jt
           try clear jaa
           try clear jai
           try clear jY
           try clear jah
           obtain ⟨kq, x107_39, rfl, HA, HJ39, ja, HB⟩ := hcut
           cases kq with
           | zero => exact absurd HA.out (by simp [spec_LockOk.j3])
           | succ kj39 =>
            have H := HA.out
            clear HA
            simp only [spec_LockOk.j3] at H
            by_cases c59 : x107_39 = true
            ·subst c59
             have H1 : (some false) = some r := by rw [if_pos rfl] at H; exact H
             clear H
             have H := H1
             clear H1
             obtain rfl := Option.some.inj H
             go_wp2
             go_ret
             exact ⟨by first | rfl | (simp [errW_none, errW_some] <;> rfl) | (simp [*, errW_none, errW_some] <;> rfl), by repeat (first | (with_reducible first | exact HB.out | apply below_alloc | apply pw_below_drewN | apply below_drew1 | refine below_set ?_ jaF.out) | exact HB.out)⟩
            ·replace c59 := Bool.eq_false_iff.mpr c59
             subst c59
             have H1 : (spec_LockOk.l2 kj39 x4_3 0 a0_0 l0_1 l0_2) = some r := by rw [if_neg (show ¬ (false = true) by decide)] at H; exact H
             clear H
             have H := H1
             clear H1
             have H' := Aside0.mk H
             clear H
             go_wp2
             go_loopg [5] kj39 (fun kq v5 w' => ∃ (x5_5 : Int), v5 = .int .i64 x5_5 ∧ Aside0 (spec_LockOk.l2 kq x4_3 x5_5 a0_0 l0_1 l0_2 = some r) ∧ Aside0 (kq ≤ kj39) ∧ Aside0 (w'.heap[jc]? = some (.cells #[.int .i64 a0_0, (.slice A0_1 l0_1.length c0_1), (.slice A0_2 l0_2.length c0_2)] 29 (0, 0))) ∧ Aside0 (Below w.heap.size w w'))
             case atStart => exact ⟨(0), (by first | rfl | (simp; done) | (simp [*]; done)), H', ⟨Nat.le_refl _⟩, ⟨bk_ ja.out⟩, ⟨hb_ HB.out⟩⟩
             case round =>
              clear H'
              try clear p1
              try clear q1
              try clear hx1
              try clear p2
              try clear c3
              try clear c4
              try clear q4
              try clear c5
              try clear p17
              try clear q17
              try clear hx17
              try clear c39
              try clear c42
              try clear c44
              try clear q45
              try clear c49
              try clear c49b0
              try clear c51
              try clear c52
              try clear c59
              try clear jo
              try clear jp
              try clear jm
              try clear jl
              try clear jB
              try clear jw
              try clear jr
              try clear jt
              try clear p1
              try clear p17
              try clear jaa
              try clear jai
              try clear p2
              try clear q1
              try clear q17
              try clear jY
              try clear jah
              try clear q4
              try clear q45
              obtain ⟨x5_5, rfl, HA, HK5, ja, HB⟩ := hrel
              cases gk with
              | zero => exact absurd HA.out (by simp [spec_LockOk.l2])
              | succ k5 =>
               have H := HA.out
               clear HA
               simp only [spec_LockOk.l2] at H
               by_cases c60 : x5_5 < (l0_1.length : Int)
               ·rw [if_pos c60] at H
                have c60b0 : decide (x5_5 < (l0_1.length : Int)) = true := decide_eq_true c60
                clear c60
                by_cases c61 : 0 ≤ x5_5
                ·rw [if_pos c61] at H
                 have c61b0 : decide (0 ≤ x5_5) = true := decide_eq_true c61
                 clear c61
                 by_cases c62 : 0 ≤ x4_3
                 ·rw [if_pos c62] at H
                  have c62b0 : decide (0 ≤ x4_3) = true := decide_eq_true c62
                  clear c62
                  by_cases c63 : x4_3 < (l0_2.length : Int)
                  ·rw [if_pos c63] at H
                   have c63b0 : decide (x4_3 < (l0_2.length : Int)) = true := decide_eq_true c63
                   clear c63
                   by_cases c64 : ((rd_T45 l0_1 x5_5).f0) = ((rd_T45 l0_2 x4_3).f0)
                   ·rw [if_pos c64] at H
                    have c64b0 : (((rd_T45 l0_1 x5_5).f0) == ((rd_T45 l0_2 x4_3).f0)) = true := beq_iff_eq.mpr c64
                    have c64b1 : (((rd_T45 l0_1 x5_5).f0) != ((rd_T45 l0_2 x4_3).f0)) = false := bne_eq_false_iff_eq.mpr c64
                    clear c64
                    obtain rfl := Option.some.inj H
                    have hcz65_0 : wr.cell? ⟨jc, 0, none⟩ = some (.int .i64 a0_0) := (blk_cell ja.out 0).trans rfl
                    have hcz65_1 : wr.cell? ⟨jc, 1, none⟩ = some (.slice A0_1 l0_1.length c0_1) := (blk_cell ja.out 1).trans rfl
                    have hcz65_2 : wr.cell? ⟨jc, 2, none⟩ = some (.slice A0_2 l0_2.length c0_2) := (blk_cell ja.out 2).trans rfl
                    have hfz65_0 := blk_frozen ja.out 0
                    have hfz65_1 := blk_frozen ja.out 1
                    have hfz65_2 := blk_frozen ja.out 2
                    try go_wp2
                    have n0_ := Aside0.mk (blk_drew ja.out)
                    have n1_ := Aside0.mk (below_drew1 HB.out)
                    clear ja
                    clear HB
                    have ja := n0_
                    have HB := n1_
                    clear n0_ n1_
                    have jaP : 0 ≤ (x5_5 : Int) := of_decide_eq_true (by first | (with_reducible assumption) | assumption)
                    have jaN : x5_5 < (l0_1.length : Int) := of_decide_eq_true (by first | (with_reducible assumption) | assumption)
                    obtain ⟨jU, jbD, jan, jaz, jaq, jaw⟩ := at_T45 HR0_1.out x5_5 jaP jaN
                    have jbb := jaw
                    have jaV := jaq
                    have jbi := jaz
                    have jbo := jan
                    cases jbD
                    replace jan := (HB.out.cell (World.block_lt_of_cell? w _ jan)).trans jan
                    replace jaz := (HB.out.cell (World.block_lt_of_cell? w _ jaz)).trans jaz
                    replace jaq := (HB.out.cell (World.block_lt_of_cell? w _ jaq)).trans jaq
                    replace jaw := (HB.out.cell (World.block_lt_of_cell? w _ jaw)).trans jaw
                    replace jaP := eq_true jaP
                    replace jaN := eq_true jaN
                    have jaK : 0 ≤ (x4_3 : Int) := of_decide_eq_true (by first | (with_reducible assumption) | assumption)
                    have jaM : x4_3 < (l0_2.length : Int) := of_decide_eq_true (by first | (with_reducible assumption) | assumption)
                    obtain ⟨jab, jbv, jav, jas, jaC, jap⟩ := at_T45 HR0_2.out x4_3 jaK jaM
                    have jbf := jap
                    have jbp := jaC
                    have jaU := jas
                    have jbg := jav
                    cases jbv
                    replace jav := (HB.out.cell (World.block_lt_of_cell? w _ jav)).trans jav
                    replace jas := (HB.out.cell (World.block_lt_of_cell? w _ jas)).trans jas
                    replace jaC := (HB.out.cell (World.block_lt_of_cell? w _ jaC)).trans jaC
                    replace jap := (HB.out.cell (World.block_lt_of_cell? w _ jap)).trans jap
                    replace jaK := eq_true jaK
                    replace jaM := eq_true jaM
                    refine start_ (n := 13) (S := fun w' => w'.cell? ⟨jc, 0, none⟩ = some (.int .i64 a0_0) ∧ w'.cell? ⟨jc, 1, none⟩ = some (.slice (some jU) l0_1.length c0_1) ∧ w'.cell? ⟨jc, 2, none⟩ = some (.slice (some jab) l0_2.length c0_2) ∧ w'.cell? (jU.add ((x5_5).toNat * 4)) = some (.int .i64 ((rd_T45 l0_1 x5_5).f0)) ∧ w'.cell? ⟨(jU.add ((x5_5).toNat * 4)).block, (jU.add ((x5_5).toNat * 4)).off + 1, none⟩ = some (.int .i64 ((rd_T45 l0_1 x5_5).f1)) ∧ w'.cell? ⟨(jU.add ((x5_5).toNat * 4)).block, (jU.add ((x5_5).toNat * 4)).off + 2, none⟩ = some (.bool ((rd_T45 l0_1 x5_5).f2)) ∧ w'.cell? ⟨(jU.add ((x5_5).toNat * 4)).block, (jU.add ((x5_5).toNat * 4)).off + 3, none⟩ = some (.bool ((rd_T45 l0_1 x5_5).f3)) ∧ w'.cell? (jab.add ((x4_3).toNat * 4)) = some (.int .i64 ((rd_T45 l0_2 x4_3).f0)) ∧ w'.cell? ⟨(jab.add ((x4_3).toNat * 4)).block, (jab.add ((x4_3).toNat * 4)).off + 1, none⟩ = some (.int .i64 ((rd_T45 l0_2 x4_3).f1)) ∧ w'.cell? ⟨(jab.add ((x4_3).toNat * 4)).block, (jab.add ((x4_3).toNat * 4)).off + 2, none⟩ = some (.bool ((rd_T45 l0_2 x4_3).f2)) ∧ w'.cell? ⟨(jab.add ((x4_3).toNat * 4)).block, (jab.add ((x4_3).toNat * 4)).off + 3, none⟩ = some (.bool ((rd_T45 l0_2 x4_3).f3))) (ds := []) (bt_ 13 0) (by kernel_rfl) rfl rfl ⟨(blk_cell ja.out 0).trans rfl, (blk_cell ja.out 1).trans rfl, (blk_cell ja.out 2).trans rfl, ((HB.out.cell (World.block_lt_of_cell? w _ jbo)).trans jbo), ((HB.out.cell (World.block_lt_of_cell? w _ jbi)).trans jbi), ((HB.out.cell (World.block_lt_of_cell? w _ jaV)).trans jaV), ((HB.out.cell (World.block_lt_of_cell? w _ jbb)).trans jbb), ((HB.out.cell (World.block_lt_of_cell? w _ jbg)).trans jbg), ((HB.out.cell (World.block_lt_of_cell? w _ jaU)).trans jaU), ((HB.out.cell (World.block_lt_of_cell? w _ jbp)).trans jbp), ((HB.out.cell (World.block_lt_of_cell? w _ jbf)).trans jbf)⟩ (fun hHeld => ?_); refine with_tabW spec_LockOk.tab16 spec_LockOk.bits16 (fun HT_ HW_ => ?_)
                    generalize wr.drew = w66 at ja HB jan jaz jaq jaw jav jas jaC jap hHeld ⊢
                    refine pu_ 0 (some 115) (bt_ 13 1) (any_of HT_.out (by kernel_rfl)) ?_
                    refine pu_ 2 (some 117) (bt_ 13 5) (any_of HT_.out (by kernel_rfl)) ?_
                    refine pu_ 6 (some 121) (bt_ 13 69) (any_of HT_.out (by kernel_rfl)) ?_
                    refine pu_ 8 (some 123) (bt_ 13 325) (any_of HT_.out (by kernel_rfl)) ?_
                    refine tk_ 1 (some 116) (bt_ 13 327) (take_ofW HT_.out HW_.out (by kernel_rfl)) hHeld ?_
                    refine pu_ 3 (some 118) (bt_ 13 335) (any_of HT_.out (by kernel_rfl)) ?_
                    refine pu_ 4 (some 119) (bt_ 13 351) (any_of HT_.out (by kernel_rfl)) ?_
                    refine tk_ 5 (some 120) (bt_ 13 383) (take_ofW HT_.out HW_.out (by kernel_rfl)) hHeld ?_
                    refine tk_ 7 (some 122) (bt_ 13 511) (take_ofW HT_.out HW_.out (by kernel_rfl)) hHeld ?_
                    refine pu_ 9 (some 124) (bt_ 13 1023) (any_of HT_.out (by kernel_rfl)) ?_
                    refine pu_ 10 (some 125) (bt_ 13 2047) (any_of HT_.out (by kernel_rfl)) ?_
                    refine tk_ 11 (some 126) (bt_ 13 4095) (take_ofW HT_.out HW_.out (by kernel_rfl)) hHeld ?_
                    refine pu_ 12 (some 127) (bt_ 13 8191) (any_of HT_.out (by kernel_rfl)) ?_
                    refine done_ (done_of HT_.out (by kernel_rfl)) ?_
                    try go_wp2
                    go_ret
                    exact ⟨by first | rfl | (simp [errW_none, errW_some] <;> rfl) | (simp [*, errW_none, errW_some] <;> rfl), by repeat (first | (with_reducible first | exact HB.out | apply below_alloc | apply pw_below_drewN | apply below_drew1 | refine below_set ?_ jaF.out) | exact HB.out)⟩
                   ·rw [if_neg c64] at H
                    have c64b0 : (((rd_T45 l0_1 x5_5).f0) == ((rd_T45 l0_2 x4_3).f0)) = false := beq_eq_false_iff_ne.mpr c64
                    have c64b1 : (((rd_T45 l0_1 x5_5).f0) != ((rd_T45 l0_2 x4_3).f0)) = true := bne_iff_ne.mpr c64
                    have H' := Aside0.mk H
                    clear H
                    have hcz67_0 : wr.cell? ⟨jc, 0, none⟩ = some (.int .i64 a0_0) := (blk_cell ja.out 0).trans rfl
                    have hcz67_1 : wr.cell? ⟨jc, 1, none⟩ = some (.slice A0_1 l0_1.length c0_1) := (blk_cell ja.out 1).trans rfl
                    have hcz67_2 : wr.cell? ⟨jc, 2, none⟩ = some (.slice A0_2 l0_2.length c0_2) := (blk_cell ja.out 2).trans rfl
                    have hfz67_0 := blk_frozen ja.out 0
                    have hfz67_1 := blk_frozen ja.out 1
                    have hfz67_2 := blk_frozen ja.out 2
                    try go_wp2
                    have n0_ := Aside0.mk (blk_drew ja.out)
                    have n1_ := Aside0.mk (below_drew1 HB.out)
                    clear ja
                    clear HB
                    have ja := n0_
                    have HB := n1_
                    clear n0_ n1_
                    have jaP : 0 ≤ (x5_5 : Int) := of_decide_eq_true (by first | (with_reducible assumption) | assumption)
                    have jaN : x5_5 < (l0_1.length : Int) := of_decide_eq_true (by first | (with_reducible assumption) | assumption)
                    obtain ⟨jU, jbD, jan, jaz, jaq, jaw⟩ := at_T45 HR0_1.out x5_5 jaP jaN
                    have jbb := jaw
                    have jaV := jaq
                    have jbi := jaz
                    have jbo := jan
                    cases jbD
                    replace jan := (HB.out.cell (World.block_lt_of_cell? w _ jan)).trans jan
                    replace jaz := (HB.out.cell (World.block_lt_of_cell? w _ jaz)).trans jaz
                    replace jaq := (HB.out.cell (World.block_lt_of_cell? w _ jaq)).trans jaq
                    replace jaw := (HB.out.cell (World.block_lt_of_cell? w _ jaw)).trans jaw
                    replace jaP := eq_true jaP
                    replace jaN := eq_true jaN
                    have jaK : 0 ≤ (x4_3 : Int) := of_decide_eq_true (by first | (with_reducible assumption) | assumption)
                    have jaM : x4_3 < (l0_2.length : Int) := of_decide_eq_true (by first | (with_reducible assumption) | assumption)
                    obtain ⟨jab, jbv, jav, jas, jaC, jap⟩ := at_T45 HR0_2.out x4_3 jaK jaM
                    have jbf := jap
                    have jbp := jaC
                    have jaU := jas
                    have jbg := jav
                    cases jbv
                    replace jav := (HB.out.cell (World.block_lt_of_cell? w _ jav)).trans jav
                    replace jas := (HB.out.cell (World.block_lt_of_cell? w _ jas)).trans jas
                    replace jaC := (HB.out.cell (World.block_lt_of_cell? w _ jaC)).trans jaC
                    replace jap := (HB.out.cell (World.block_lt_of_cell? w _ jap)).trans jap
                    replace jaK := eq_true jaK
                    replace jaM := eq_true jaM
                    refine start_ (n := 13) (S := fun w' => w'.cell? ⟨jc, 0, none⟩ = some (.int .i64 a0_0) ∧ w'.cell? ⟨jc, 1, none⟩ = some (.slice (some jU) l0_1.length c0_1) ∧ w'.cell? ⟨jc, 2, none⟩ = some (.slice (some jab) l0_2.length c0_2) ∧ w'.cell? (jU.add ((x5_5).toNat * 4)) = some (.int .i64 ((rd_T45 l0_1 x5_5).f0)) ∧ w'.cell? ⟨(jU.add ((x5_5).toNat * 4)).block, (jU.add ((x5_5).toNat * 4)).off + 1, none⟩ = some (.int .i64 ((rd_T45 l0_1 x5_5).f1)) ∧ w'.cell? ⟨(jU.add ((x5_5).toNat * 4)).block, (jU.add ((x5_5).toNat * 4)).off + 2, none⟩ = some (.bool ((rd_T45 l0_1 x5_5).f2)) ∧ w'.cell? ⟨(jU.add ((x5_5).toNat * 4)).block, (jU.add ((x5_5).toNat * 4)).off + 3, none⟩ = some (.bool ((rd_T45 l0_1 x5_5).f3)) ∧ w'.cell? (jab.add ((x4_3).toNat * 4)) = some (.int .i64 ((rd_T45 l0_2 x4_3).f0)) ∧ w'.cell? ⟨(jab.add ((x4_3).toNat * 4)).block, (jab.add ((x4_3).toNat * 4)).off + 1, none⟩ = some (.int .i64 ((rd_T45 l0_2 x4_3).f1)) ∧ w'.cell? ⟨(jab.add ((x4_3).toNat * 4)).block, (jab.add ((x4_3).toNat * 4)).off + 2, none⟩ = some (.bool ((rd_T45 l0_2 x4_3).f2)) ∧ w'.cell? ⟨(jab.add ((x4_3).toNat * 4)).block, (jab.add ((x4_3).toNat * 4)).off + 3, none⟩ = some (.bool ((rd_T45 l0_2 x4_3).f3))) (ds := []) (bt_ 13 0) (by kernel_rfl) rfl rfl ⟨(blk_cell ja.out 0).trans rfl, (blk_cell ja.out 1).trans rfl, (blk_cell ja.out 2).trans rfl, ((HB.out.cell (World.block_lt_of_cell? w _ jbo)).trans jbo), ((HB.out.cell (World.block_lt_of_cell? w _ jbi)).trans jbi), ((HB.out.cell (World.block_lt_of_cell? w _ jaV)).trans jaV), ((HB.out.cell (World.block_lt_of_cell? w _ jbb)).trans jbb), ((HB.out.cell (World.block_lt_of_cell? w _ jbg)).trans jbg), ((HB.out.cell (World.block_lt_of_cell? w _ jaU)).trans jaU), ((HB.out.cell (World.block_lt_of_cell? w _ jbp)).trans jbp), ((HB.out.cell (World.block_lt_of_cell? w _ jbf)).trans jbf)⟩ (fun hHeld => ?_); refine with_tabW spec_LockOk.tab16 spec_LockOk.bits16 (fun HT_ HW_ => ?_)
                    generalize wr.drew = w68 at ja HB jan jaz jaq jaw jav jas jaC jap hHeld ⊢
                    refine pu_ 0 (some 115) (bt_ 13 1) (any_of HT_.out (by kernel_rfl)) ?_
                    refine pu_ 2 (some 117) (bt_ 13 5) (any_of HT_.out (by kernel_rfl)) ?_
                    refine pu_ 6 (some 121) (bt_ 13 69) (any_of HT_.out (by kernel_rfl)) ?_
                    refine pu_ 8 (some 123) (bt_ 13 325) (any_of HT_.out (by kernel_rfl)) ?_
                    refine tk_ 1 (some 116) (bt_ 13 327) (take_ofW HT_.out HW_.out (by kernel_rfl)) hHeld ?_
                    refine pu_ 3 (some 118) (bt_ 13 335) (any_of HT_.out (by kernel_rfl)) ?_
                    refine pu_ 4 (some 119) (bt_ 13 351) (any_of HT_.out (by kernel_rfl)) ?_
                    refine tk_ 5 (some 120) (bt_ 13 383) (take_ofW HT_.out HW_.out (by kernel_rfl)) hHeld ?_
                    refine tk_ 7 (some 122) (bt_ 13 511) (take_ofW HT_.out HW_.out (by kernel_rfl)) hHeld ?_
                    refine pu_ 9 (some 124) (bt_ 13 1023) (any_of HT_.out (by kernel_rfl)) ?_
                    refine pu_ 10 (some 125) (bt_ 13 2047) (any_of HT_.out (by kernel_rfl)) ?_
                    refine tk_ 11 (some 126) (bt_ 13 4095) (take_ofW HT_.out HW_.out (by kernel_rfl)) hHeld ?_
                    refine pu_ 12 (some 127) (bt_ 13 8191) (any_of HT_.out (by kernel_rfl)) ?_
                    refine done_ (done_of HT_.out (by kernel_rfl)) ?_
                    try go_wp2
                    go_roundg k5
                    case measure => have := HJ1.out; have := HK2.out; have := HK3.out; have := HJ39.out; have := HK5.out; omega
                    case rel => exact ⟨(wrap64 (x5_5 + 1)), (by first | rfl | (simp; done) | (simp [*]; done)), H', ⟨by have := HJ1.out; have := HK2.out; have := HK3.out; have := HJ39.out; have := HK5.out; omega⟩, ⟨bk_ ja.out⟩, ⟨hb_ HB.out⟩⟩
                  ·rw [if_neg c63] at H
                   exact absurd H (by simp)
                 ·rw [if_neg c62] at H
                  exact absurd H (by simp)
                ·rw [if_neg c61] at H
                 exact absurd H (by simp)
               ·rw [if_neg c60] at H
                have c60b0 : decide (x5_5 < (l0_1.length : Int)) = false := decide_eq_false c60
                clear c60
                have H' := Aside0.mk H
                clear H
                have hcz69_0 : wr.cell? ⟨jc, 0, none⟩ = some (.int .i64 a0_0) := (blk_cell ja.out 0).trans rfl
                have hcz69_1 : wr.cell? ⟨jc, 1, none⟩ = some (.slice A0_1 l0_1.length c0_1) := (blk_cell ja.out 1).trans rfl
                have hcz69_2 : wr.cell? ⟨jc, 2, none⟩ = some (.slice A0_2 l0_2.length c0_2) := (blk_cell ja.out 2).trans rfl
                have hfz69_0 := blk_frozen ja.out 0
                have hfz69_1 := blk_frozen ja.out 1
                have hfz69_2 := blk_frozen ja.out 2
                go_wp2
                go_roundg k5
                case measure => have := HJ1.out; have := HK2.out; have := HK3.out; have := HJ39.out; have := HK5.out; omega
                case rel => exact ⟨(wrap64 (x4_3 + 1)), (by first | rfl | (simp; done) | (simp [*]; done)), H', ⟨by have := HJ1.out; have := HK2.out; have := HK3.out; have := HJ39.out; have := HK5.out; omega⟩, ⟨bk_ ja.out⟩, ⟨hb_ HB.out⟩⟩
         ·rw [if_neg c39] at H
          have c39b0 : decide (x4_3 < (l0_2.length : Int)) = false := decide_eq_false c39
          clear c39
          obtain rfl := Option.some.inj H
          have hcz70_0 : wr.cell? ⟨jc, 0, none⟩ = some (.int .i64 a0_0) := (blk_cell ja.out 0).trans rfl
          have hcz70_1 : wr.cell? ⟨jc, 1, none⟩ = some (.slice A0_1 l0_1.length c0_1) := (blk_cell ja.out 1).trans rfl
          have hcz70_2 : wr.cell? ⟨jc, 2, none⟩ = some (.slice A0_2 l0_2.length c0_2) := (blk_cell ja.out 2).trans rfl
          have hfz70_0 := blk_frozen ja.out 0
          have hfz70_1 := blk_frozen ja.out 1
          have hfz70_2 := blk_frozen ja.out 2
          go_wp2
          go_ret
          exact ⟨by first | rfl | (simp [errW_none, errW_some] <;> rfl) | (simp [*, errW_none, errW_some] <;> rfl), by repeat (first | (with_reducible first | exact HB.out | apply below_alloc | apply pw_below_drewN | apply below_drew1 | refine below_set ?_ jaF.out) | exact HB.out)⟩

end Go.Proofs.Ytjldpnhlegbjkaa.PA
