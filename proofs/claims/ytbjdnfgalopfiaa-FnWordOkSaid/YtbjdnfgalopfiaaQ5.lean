/- What l72Word draws. -/
import Derived.Test.YtbjdnfgalopfiaaQ4
import Derived.Deep.Cut
namespace Go.Proofs.Ytbjdnfgalopfiaa.PD
open Go.RowKit Go.Proofs.YtbjdnfgalopfiaaW.PrintWords Go.Proofs.YtbjdnfgalopfiaaW.PrintLast Go.Proofs.YtbjdnfgalopfiaaW.PrintMore Go.Proofs.Ytbjdnfgalopfiaa.PB
attribute [local go_sem] max2_int min2_int max_two min_two max_three min_three max_four min_four
set_option linter.unusedVariables false
set_option linter.unusedSimpArgs false
def l72w.T1 : Bool × List (List Nat × List Nat) := (true, [([], []), ([0], [0]), ([1], [1]), ([], []), ([], []), ([4, 1], [4]), ([3, 5], [3, 5]), ([6], [6]), ([], []), ([], []), ([9, 5], [9]), ([8, 10], [8, 10]), ([11], [11]), ([], []), ([13, 10], [13]), ([14], [14]), ([], []), ([16, 14], [16]), ([17], [17]), ([], []), ([19, 17], [19]), ([], []), ([21, 20], [21]), ([22], [22]), ([], []), ([24, 22], [24]), ([2, 7, 12, 15, 18, 20, 23, 25], [2, 7, 12, 15, 18, 20, 23, 25]), ([], []), ([27, 26, 25, 0, 1, 2, 3, 4, 5, 6, 7, 8, 9, 10, 11, 12, 13, 14, 15, 16, 17, 18, 19, 20, 21, 22, 23, 24, 25, 26, 27], [26, 27])])
def l72w.B1 : List Nat := [0, 1, 3, 0, 0, 19, 59, 123, 0, 0, 563, 1843, 3891, 0, 9779, 26163, 0, 91699, 222771, 0, 747059, 0, 3892787, 8087091, 0, 24864307, 67108863, 0, 268435455]
theorem l72w.tab1 : rtab .any (opsOf Try.f40 1) = l72w.T1 := by kernel_rfl
theorem l72w.bits1 : waitsOk l72w.T1.2 l72w.B1 = true := by kernel_rfl
set_option maxHeartbeats 8000000 in
set_option maxRecDepth 100000 in
theorem wordW (w0 w : World) (g : Nat) (bs : List Int) (m : Int) (h : RdS w0 w w g bs m) (hm : m ≤ 100) :
 Calls Try.prog 40 #[.pointer (some ⟨g, 0, none⟩)] w fun e w' => ∃ (n0 n1 n2 n3 n4 n5 : Int) (yes : Bool) (A7 : Option Addr) (c7 : Nat) (A8 : Option Addr) (c8 : Nat) (n9 : Int) (A10 : Option Addr) (c10 : Nat) (m0 m1 m2 : Int) (tx : ByteArray) (m4 m5 : Int) (ls : List Int) (lp : List S68) (lv : List Int), e = .returned (.agg #[.int .i64 n0, .int .i64 n1, .int .i64 n2, .int .i64 n3, .int .i64 n4, .int .i64 n5, .bool yes, .slice A7 ls.length c7, .slice A8 lp.length c8, .int .i64 n9, .slice A10 lv.length c10, .int .i64 m0, .int .i64 m1, .int .i64 m2, .string tx, .int .i64 m4, .int .i64 m5]) ∧ Kd.R (Kd.int .i64) 3 w' w.heap.size (fun _ => True) (.slice A7 ls.length c7) ls ∧ Kd.R k68 68 w' w.heap.size (fun _ => True) (.slice A8 lp.length c8) lp ∧ Kd.R (Kd.int .i64) 3 w' w.heap.size (fun _ => True) (.slice A10 lv.length c10) lv ∧ (ls.length ≤ 64 ∧ lp.length ≤ 64 ∧ lv.length ≤ 64) ∧ RdS w0 w w' g bs (m + 300) := by
 have hu31 := Try.underlying31
 have hu33 := Try.underlying33
 have HM := Aside0.mk hm
 have I := Aside0.mk h
 clear h hm
 have ZZ := Aside0.mk (Nat.le_refl w.heap.size)
 have hb := below_alloc (Below.refl w.heap.size w) (.cells #[.int .i64 0, .int .i64 0, .int .i64 0, .int .i64 0, .int .i64 0, .int .i64 0, .bool false, .slice none 0 0, .slice none 0 0, .int .i64 0, .slice none 0 0, .int .i64 0, .int .i64 0, .int .i64 0, .string ⟨#[]⟩, .int .i64 0, .int .i64 0] 33 (0, 0))
 have ZZ := Aside0.mk (And.intro ZZ.out ((hb).size))
 have I := Aside0.mk (I.out.below (hb))
 clear hb
 have P2 := Aside0.mk (blk_new w (.cells #[.int .i64 0, .int .i64 0, .int .i64 0, .int .i64 0, .int .i64 0, .int .i64 0, .bool false, .slice none 0 0, .slice none 0 0, .int .i64 0, .slice none 0 0, .int .i64 0, .int .i64 0, .int .i64 0, .string ⟨#[]⟩, .int .i64 0, .int .i64 0] 33 (0, 0)))
 have ZZ := Aside0.mk (And.intro ZZ.out (blk_lt P2.out))
 go_enter Try.func40, Try.ntmps40
 go_wp2_with (fail)
 generalize w.alloc (.cells #[.int .i64 0, .int .i64 0, .int .i64 0, .int .i64 0, .int .i64 0, .int .i64 0, .bool false, .slice none 0 0, .slice none 0 0, .int .i64 0, .slice none 0 0, .int .i64 0, .int .i64 0, .int .i64 0, .string ⟨#[]⟩, .int .i64 0, .int .i64 0] 33 (0, 0)) = W1 at ZZ P2 I ⊢
 have I := Aside0.mk I.out.drew
 have P2 := kbd P2
 obtain ⟨hby_, hle_, q, h0_, hq_, hI_, hB_, hk_⟩ := I.out
 have hle := Aside0.mk hle_
 have HBY := Aside0.mk hby_
 have HQ := Aside0.mk (And.intro h0_ hq_)
 have hm_ := HM.out
 obtain ⟨t1, a1, b1, K1, k1⟩ := pick_ev bs q 9 hby_ (by omega) (by omega) (by decide) (by decide)
 obtain ⟨t2, a2, b2, K2, k2⟩ := pick_ev bs (q + 1) 6 hby_ (by omega) (by omega) (by decide) (by decide)
 obtain ⟨t3, a3, b3, K3, k3⟩ := pick_ev bs (q + 2) 6 hby_ (by omega) (by omega) (by decide) (by decide)
 obtain ⟨t4, a4, b4, K4, k4⟩ := pick_ev bs (q + 3) 6 hby_ (by omega) (by omega) (by decide) (by decide)
 obtain ⟨t5, a5, b5, K5, k5⟩ := pick_ev bs (q + 4) 2 hby_ (by omega) (by omega) (by decide) (by decide)
 obtain ⟨t6, a6, b6, K6, k6⟩ := pick_ev bs (q + 5) 4 hby_ (by omega) (by omega) (by decide) (by decide)
 obtain ⟨t7, a7, b7, K7, k7⟩ := pick_ev bs (q + 6) 2 hby_ (by omega) (by omega) (by decide) (by decide)
 obtain ⟨t8, a8, b8, K8, k8⟩ := pick_ev bs (q + 7) 4 hby_ (by omega) (by omega) (by decide) (by decide)
 obtain ⟨kk, hkk⟩ : ∃ kk, kk = K1 + K2 + K3 + K4 + K5 + K6 + K7 + K8 := ⟨_, rfl⟩
 have A1 := Aside0.mk (k1 kk (by omega))
 have A2 := Aside0.mk (k2 kk (by omega))
 rw [show q + 1 + 1 = q + 2 by omega] at A2
 have A3 := Aside0.mk (k3 kk (by omega))
 rw [show q + 2 + 1 = q + 3 by omega] at A3
 have A4 := Aside0.mk (k4 kk (by omega))
 rw [show q + 3 + 1 = q + 4 by omega] at A4
 have A5 := Aside0.mk (k5 kk (by omega))
 rw [show q + 4 + 1 = q + 5 by omega] at A5
 have A6 := Aside0.mk (k6 kk (by omega))
 rw [show q + 5 + 1 = q + 6 by omega] at A6
 have A7 := Aside0.mk (k7 kk (by omega))
 rw [show q + 6 + 1 = q + 7 by omega] at A7
 have A8 := Aside0.mk (k8 kk (by omega))
 rw [show q + 7 + 1 = q + 8 by omega] at A8
 have T2 := Aside0.mk (And.intro (eq_true a2) (eq_true b2))
 have T3 := Aside0.mk (And.intro (eq_true a3) (eq_true b3))
 obtain ⟨y1, hy1_⟩ : ∃ y : Int, (#[.int .i64 0, .int .i64 1, .int .i64 2, .int .i64 9, .int .i64 100, .int .i64 102] : Array Value)[t2.toNat]? = some (.int .i64 y) := ints_at [0, 1, 2, 9, 100, 102] t2 a2 b2
 obtain ⟨y2, hy2_⟩ : ∃ y : Int, (#[.int .i64 0, .int .i64 1, .int .i64 2, .int .i64 9, .int .i64 9, .int .i64 101] : Array Value)[t3.toNat]? = some (.int .i64 y) := ints_at [0, 1, 2, 9, 9, 101] t3 a3 b3
 have hy1 := Aside0.mk hy1_
 have hy2 := Aside0.mk hy2_
 have KB := Aside0.mk (And.intro hk_ hB_)
 have I0 := Aside0.mk hI_
 clear hby_ hle_ h0_ hq_ hI_ hB_ hk_ hm_ hkk hy1_ hy2_ I a1 b1 k1 a2 b2 k2 a3 b3 k3 a4 b4 k4 a5 b5 k5 a6 b6 k6 a7 b7 k7 a8 b8 k8
 refine start_ (n := 29) (S := fun w' => True) (ds := []) #[false, false, false, false, false, false, false, false, false, false, false, false, false, false, false, false, false, false, false, false, false, false, false, false, false, false, false, false, false] (by kernel_rfl) rfl rfl trivial (fun hHeld => ?_); refine with_tabW l72w.tab1 l72w.bits1 (fun HT_ HW_ => ?_)
 generalize hwd : W1.drew = wd at KB I0 P2 ⊢
 refine pure_ (i := 0) (N := some 4) (v := ?_) (a' := ?_) #[true, false, false, false, false, false, false, false, false, false, false, false, false, false, false, false, false, false, false, false, false, false, false, false, false, false, false, false, false] rfl rfl (any_of HT_.out (by kernel_rfl)) (fun _ _ _ h => h) (Or.inl ⟨by rfl, ?_⟩) ?_ ?_
 rotate_left
 ·intro w'
  go_simp
  with_reducible rfl
 rotate_left
 ·simp only [Act.put, List.setIfInBounds_toArray, List.set_cons_zero, List.set_cons_succ, i64_w, i32_w]
  rfl
 refine pure_ (i := 4) (N := some 8) (v := ?_) (a' := ?_) #[true, false, false, false, true, false, false, false, false, false, false, false, false, false, false, false, false, false, false, false, false, false, false, false, false, false, false, false, false] rfl rfl (any_of HT_.out (by kernel_rfl)) (fun _ _ _ h => h) (Or.inl ⟨by rfl, ?_⟩) ?_ ?_
 rotate_left
 ·intro w'
  go_simp
  with_reducible rfl
 rotate_left
 ·simp only [Act.put, List.setIfInBounds_toArray, List.set_cons_zero, List.set_cons_succ, i64_w, i32_w]
  rfl
 refine pure_ (i := 9) (N := some 13) (v := ?_) (a' := ?_) #[true, false, false, false, true, false, false, false, false, true, false, false, false, false, false, false, false, false, false, false, false, false, false, false, false, false, false, false, false] rfl rfl (any_of HT_.out (by kernel_rfl)) (fun _ _ _ h => h) (Or.inl ⟨by rfl, ?_⟩) ?_ ?_
 rotate_left
 ·intro w'
  go_simp
  with_reducible rfl
 rotate_left
 ·simp only [Act.put, List.setIfInBounds_toArray, List.set_cons_zero, List.set_cons_succ, i64_w, i32_w]
  rfl
 refine pure_ (i := 13) (N := some 17) (v := ?_) (a' := ?_) #[true, false, false, false, true, false, false, false, false, true, false, false, false, true, false, false, false, false, false, false, false, false, false, false, false, false, false, false, false] rfl rfl (any_of HT_.out (by kernel_rfl)) (fun _ _ _ h => h) (Or.inl ⟨by rfl, ?_⟩) ?_ ?_
 rotate_left
 ·intro w'
  go_simp
  with_reducible rfl
 rotate_left
 ·simp only [Act.put, List.setIfInBounds_toArray, List.set_cons_zero, List.set_cons_succ, i64_w, i32_w]
  rfl
 refine pure_ (i := 16) (N := some 20) (v := ?_) (a' := ?_) #[true, false, false, false, true, false, false, false, false, true, false, false, false, true, false, false, true, false, false, false, false, false, false, false, false, false, false, false, false] rfl rfl (any_of HT_.out (by kernel_rfl)) (fun _ _ _ h => h) (Or.inl ⟨by rfl, ?_⟩) ?_ ?_
 rotate_left
 ·intro w'
  go_simp
  with_reducible rfl
 rotate_left
 ·simp only [Act.put, List.setIfInBounds_toArray, List.set_cons_zero, List.set_cons_succ, i64_w, i32_w]
  rfl
 refine pure_ (i := 19) (N := some 23) (v := ?_) (a' := ?_) #[true, false, false, false, true, false, false, false, false, true, false, false, false, true, false, false, true, false, false, true, false, false, false, false, false, false, false, false, false] rfl rfl (any_of HT_.out (by kernel_rfl)) (fun _ _ _ h => h) (Or.inl ⟨by rfl, ?_⟩) ?_ ?_
 rotate_left
 ·intro w'
  go_simp
  with_reducible rfl
 rotate_left
 ·simp only [Act.put, List.setIfInBounds_toArray, List.set_cons_zero, List.set_cons_succ, i64_w, i32_w]
  rfl
 refine pure_ (i := 21) (N := some 25) (v := ?_) (a' := ?_) #[true, false, false, false, true, false, false, false, false, true, false, false, false, true, false, false, true, false, false, true, false, true, false, false, false, false, false, false, false] rfl rfl (any_of HT_.out (by kernel_rfl)) (fun _ _ _ h => h) (Or.inl ⟨by rfl, ?_⟩) ?_ ?_
 rotate_left
 ·intro w'
  go_simp
  with_reducible rfl
 rotate_left
 ·simp only [Act.put, List.setIfInBounds_toArray, List.set_cons_zero, List.set_cons_succ, i64_w, i32_w]
  rfl
 refine pure_ (i := 24) (N := some 28) (v := ?_) (a' := ?_) #[true, false, false, false, true, false, false, false, false, true, false, false, false, true, false, false, true, false, false, true, false, true, false, false, true, false, false, false, false] rfl rfl (any_of HT_.out (by kernel_rfl)) (fun _ _ _ h => h) (Or.inl ⟨by rfl, ?_⟩) ?_ ?_
 rotate_left
 ·intro w'
  go_simp
  with_reducible rfl
 rotate_left
 ·simp only [Act.put, List.setIfInBounds_toArray, List.set_cons_zero, List.set_cons_succ, i64_w, i32_w]
  rfl
 refine inv_at [1, 2, 3, 5, 6, 7, 8, 10, 11, 12, 14, 15, 17, 18, 20, 22, 23, 25, 26, 27, 28] (fun a0_ b a w' => ∃ (gx : Nat) (ga : Nat) (gb : Nat) (m3_ : Value) (m6_ : Value) (m8_ : Value) (m11_ : Value) (m27_ : Value), a = putSel a0_ b [(1, 5, .int .i64 t1), (2, 6, .int .i64 (wrap64 (1 + t1))), (3, 7, m3_), (5, 9, .int .i64 t2), (6, 10, m6_), (7, 11, .int .i64 y1), (8, 12, m8_), (10, 14, .int .i64 t3), (11, 15, m11_), (12, 16, .int .i64 y2), (14, 18, .int .i64 t4), (15, 19, .int .i64 (wrap64 (1 + t4))), (17, 21, .int .i64 t5), (18, 22, .int .i64 (wrap64 (1 + t5))), (20, 24, .int .i64 t6), (22, 26, .int .i64 t7), (23, 27, .bool (t7 == 0)), (25, 29, .int .i64 t8), (26, 30, .agg #[.int .i64 (wrap64 (1 + t1)), .int .i64 y1, .int .i64 y2, .int .i64 (wrap64 (1 + t4)), .int .i64 (wrap64 (1 + t5)), .int .i64 t6, .bool (t7 == 0), .slice none 0 0, .slice none 0 0, .int .i64 t8, .slice none 0 0, .int .i64 0, .int .i64 0, .int .i64 0, .string ⟨#[]⟩, .int .i64 0, .int .i64 0]), (27, 3, m27_)] ∧ (KeepBut w w' g none ∧ Below w0.heap.size w0 w') ∧ (w'.heap[w.heap.size]? = some (.cells #[.int .i64 0, .int .i64 0, .int .i64 0, .int .i64 0, .int .i64 0, .int .i64 0, .bool false, .slice none 0 0, .slice none 0 0, .int .i64 0, .slice none 0 0, .int .i64 0, .int .i64 0, .int .i64 0, .string ⟨#[]⟩, .int .i64 0, .int .i64 0] 33 (0, 0))) ∧ (b 1 = false → IsS83 w0 w' g bs q) ∧ (b 1 = true → b 5 = false → IsS83 w0 w' g bs (q + 1)) ∧ (b 5 = true → b 10 = false → IsS83 w0 w' g bs (q + 2)) ∧ (b 10 = true → b 14 = false → IsS83 w0 w' g bs (q + 3)) ∧ (b 14 = true → b 17 = false → IsS83 w0 w' g bs (q + 4)) ∧ (b 17 = true → b 20 = false → IsS83 w0 w' g bs (q + 5)) ∧ (b 20 = true → b 22 = false → IsS83 w0 w' g bs (q + 6)) ∧ (b 22 = true → b 25 = false → IsS83 w0 w' g bs (q + 7)) ∧ (b 25 = true → IsS83 w0 w' g bs (q + 8)) ∧ (b 3 = true → w'.heap[ga]? = some (.cells #[.int .i64 0, .int .i64 1, .int .i64 2, .int .i64 9, .int .i64 100, .int .i64 102] 3 (0, 0))) ∧ (b 8 = true → w'.heap[gb]? = some (.cells #[.int .i64 0, .int .i64 1, .int .i64 2, .int .i64 9, .int .i64 9, .int .i64 101] 3 (0, 0))) ∧ (b 27 = true → b 28 = false → w'.heap[gx]? = some (.cells #[.int .i64 0, .int .i64 0, .int .i64 0, .int .i64 0, .int .i64 0, .int .i64 0, .bool false, .slice none 0 0, .slice none 0 0, .int .i64 0, .slice none 0 0, .int .i64 0, .int .i64 0, .int .i64 0, .string ⟨#[]⟩, .int .i64 0, .int .i64 0] 33 (0, 0))) ∧ (b 27 = true → w.heap.size < gx) ∧ (b 28 = true → w'.heap[gx]? = some (.cells #[.int .i64 (wrap64 (1 + t1)), .int .i64 y1, .int .i64 y2, .int .i64 (wrap64 (1 + t4)), .int .i64 (wrap64 (1 + t5)), .int .i64 t6, .bool (t7 == 0), .slice none 0 0, .slice none 0 0, .int .i64 t8, .slice none 0 0, .int .i64 0, .int .i64 0, .int .i64 0, .string ⟨#[]⟩, .int .i64 0, .int .i64 0] 33 (0, 0))) ∧ (b 3 = true → (m3_ : Value) = .slice (some ⟨ga, 0, none⟩) 6 6) ∧ (b 6 = true → (m6_ : Value) = .pointer (some ⟨ga, t2.toNat, none⟩)) ∧ (b 8 = true → (m8_ : Value) = .slice (some ⟨gb, 0, none⟩) 6 6) ∧ (b 11 = true → (m11_ : Value) = .pointer (some ⟨gb, t3.toNat, none⟩)) ∧ (b 27 = true → (m27_ : Value) = .pointer (some ⟨gx, 0, none⟩))) HT_.out HW_.out (by kernel_rfl) (by kernel_rfl) ?_ ?_ ?_
 ·exact ⟨0, 0, 0, .bool false, .bool false, .bool false, .bool false, .bool false, by simp only [putSel, Bool.false_eq_true, if_false], KB.out, P2.out, fun _ => I0.out, fun h_ => absurd h_ (by decide), fun h_ => absurd h_ (by decide), fun h_ => absurd h_ (by decide), fun h_ => absurd h_ (by decide), fun h_ => absurd h_ (by decide), fun h_ => absurd h_ (by decide), fun h_ => absurd h_ (by decide), fun h_ => absurd h_ (by decide), fun h_ => absurd h_ (by decide), fun h_ => absurd h_ (by decide), fun h_ => absurd h_ (by decide), fun h_ => absurd h_ (by decide), fun h_ => absurd h_ (by decide), fun h_ => absurd h_ (by decide), fun h_ => absurd h_ (by decide), fun h_ => absurd h_ (by decide), fun h_ => absurd h_ (by decide), fun h_ => absurd h_ (by decide)⟩
 ·skip
  clear I0 KB P2
  refine steps_cons ?_ ?_
  ·rintro b a w' ⟨gx, ga, gb, m3_, m6_, m8_, m11_, m27_, ha, Q_KB, Q_P2, Q_I0, Q_I1, Q_I2, Q_I3, Q_I4, Q_I5, Q_I6, Q_I7, Q_I8, Q_BA, Q_BB, Q_BX, Q_GX, Q_BY, Q_X3_, Q_X6_, Q_X8_, Q_X11_, Q_X27_⟩ hb_ hon hoff
   refine ⟨_, rfl, fun K hK => ?_⟩
   have e4 : a.tmps[4]? = some (.pointer (some ⟨g, 0, none⟩)) := by rw [ha]; exact (putSel_off rfl).trans rfl
   replace ha := Aside0.mk ha
   have KB := Aside0.mk Q_KB
   have P2 := Aside0.mk Q_P2
   have I0 := Aside0.mk (Q_I0 hb_)
   refine goes_ Try.func58 (by kernel_rfl) rfl #[.pointer (some ⟨g, 0, none⟩), .int .i64 9] (by rfl) rfl rfl (by first | (simp only [List.map_toArray, List.map_cons, List.map_nil, Act.eval, Array.getD_eq_getD_getElem?, Option.getD_some, e4]; done) | (simp only [List.map_toArray, List.map_cons, List.map_nil, Act.eval, Array.getD_eq_getD_getElem?, Option.getD_some, e4]; rfl)) ?_
   with_reducible refine (spec_l6Rd_pick.calls kk g bs q 9 t1 (q + 1) w0 w' I0.out KB.out.2 A1.out).mono ?_
   rintro e w3 ⟨rfl, hi, hb, hk⟩
   refine ⟨_, rfl, ?_⟩
   refine hK.out _ _ ⟨gx, ga, gb, m3_, m6_, m8_, m11_, m27_, (by rw [ha.out]; exact putSel_upk 0 hb_ rfl rfl rfl), ⟨KB.out.1.trans hk (.inl rfl), hb⟩, hk.blk P2.out (Ne.symm (IsS83.ne_blk I0.out P2.out (by decide))) (by simp), fun h0_ => absurd ((up_self b 1).symm.trans h0_) (by decide), fun _ _ => hi, fun h0_ _ => absurd ((hoff 5 (by kernel_rfl)).symm.trans h0_) (by decide), fun h0_ _ => absurd ((hoff 10 (by kernel_rfl)).symm.trans h0_) (by decide), fun h0_ _ => absurd ((hoff 14 (by kernel_rfl)).symm.trans h0_) (by decide), fun h0_ _ => absurd ((hoff 17 (by kernel_rfl)).symm.trans h0_) (by decide), fun h0_ _ => absurd ((hoff 20 (by kernel_rfl)).symm.trans h0_) (by decide), fun h0_ _ => absurd ((hoff 22 (by kernel_rfl)).symm.trans h0_) (by decide), fun h0_ => absurd ((hoff 25 (by kernel_rfl)).symm.trans h0_) (by decide), fun h0_ => hk.blk (Q_BA h0_) (Ne.symm (IsS83.ne_blk I0.out (Q_BA h0_) (by decide))) (by simp), fun h0_ => hk.blk (Q_BB h0_) (Ne.symm (IsS83.ne_blk I0.out (Q_BB h0_) (by decide))) (by simp), fun h0_ h1_ => hk.blk (Q_BX h0_ h1_) (Ne.symm (IsS83.ne_blk I0.out (Q_BX h0_ h1_) (by decide))) (by simp), fun h0_ => (Q_GX h0_), fun h0_ => absurd ((hoff 28 (by kernel_rfl)).symm.trans h0_) (by decide), Q_X3_, fun h0_ => absurd ((hoff 6 (by kernel_rfl)).symm.trans h0_) (by decide), Q_X8_, fun h0_ => absurd ((hoff 11 (by kernel_rfl)).symm.trans h0_) (by decide), Q_X27_⟩
  refine steps_cons ?_ ?_
  ·rintro b a w' ⟨gx, ga, gb, m3_, m6_, m8_, m11_, m27_, ha, Q_KB, Q_P2, Q_I0, Q_I1, Q_I2, Q_I3, Q_I4, Q_I5, Q_I6, Q_I7, Q_I8, Q_BA, Q_BB, Q_BX, Q_GX, Q_BY, Q_X3_, Q_X6_, Q_X8_, Q_X11_, Q_X27_⟩ hb_ hon hoff
   refine ⟨_, rfl, fun K hK => ?_⟩
   have e5 : a.tmps[5]? = some (.int .i64 t1) := by rw [ha]; exact putSel_on (e := (1, 5, .int .i64 t1)) 0 rfl rfl (hon 1 (by kernel_rfl)) rfl
   replace ha := Aside0.mk ha
   have KB := Aside0.mk Q_KB
   have P2 := Aside0.mk Q_P2
   refine value_ (w1 := w') (v := .int .i64 (wrap64 (1 + t1))) (by rfl) rfl ?_ ?_
   ·go_simp
    (try simp only [i64_w])
    try rfl
   refine hK.out _ _ ⟨gx, ga, gb, m3_, m6_, m8_, m11_, m27_, (by rw [ha.out]; exact putSel_upk 1 hb_ rfl rfl rfl), Q_KB, Q_P2, fun h0_ => absurd ((hon 1 (by kernel_rfl)).symm.trans h0_) (by decide), Q_I1, Q_I2, Q_I3, Q_I4, Q_I5, Q_I6, Q_I7, Q_I8, Q_BA, Q_BB, Q_BX, Q_GX, fun h0_ => absurd ((hoff 28 (by kernel_rfl)).symm.trans h0_) (by decide), Q_X3_, Q_X6_, Q_X8_, Q_X11_, Q_X27_⟩
  refine steps_cons ?_ ?_
  ·rintro b a w' ⟨gx, ga, gb, m3_, m6_, m8_, m11_, m27_, ha, Q_KB, Q_P2, Q_I0, Q_I1, Q_I2, Q_I3, Q_I4, Q_I5, Q_I6, Q_I7, Q_I8, Q_BA, Q_BB, Q_BX, Q_GX, Q_BY, Q_X3_, Q_X6_, Q_X8_, Q_X11_, Q_X27_⟩ hb_ hon hoff
   refine ⟨_, rfl, fun K hK => ?_⟩
   replace ha := Aside0.mk ha
   have KB := Aside0.mk Q_KB
   have P2 := Aside0.mk Q_P2
   refine value_ (w1 := ?_) (v := ?_) (by rfl) rfl ?_ ?_
   rotate_left 2
   ·go_simp
    constructor
    ·rfl
    ·rfl
   refine hK.out _ _ ⟨gx, w'.heap.size, gb, (.slice (some ⟨w'.heap.size, 0, none⟩) 6 6), m6_, m8_, m11_, m27_, (by rw [ha.out]; exact putSel_upk 2 hb_ rfl rfl rfl), ⟨keep_alloc KB.out.1 _, KB.out.2.alloc KB.out.2.size _⟩, blk_alloc P2.out _, fun h0_ => (Q_I0 h0_).alloc _, fun h0_ h1_ => (Q_I1 h0_ h1_).alloc _, fun h0_ h1_ => (Q_I2 h0_ h1_).alloc _, fun h0_ h1_ => (Q_I3 h0_ h1_).alloc _, fun h0_ h1_ => (Q_I4 h0_ h1_).alloc _, fun h0_ h1_ => (Q_I5 h0_ h1_).alloc _, fun h0_ h1_ => (Q_I6 h0_ h1_).alloc _, fun h0_ h1_ => (Q_I7 h0_ h1_).alloc _, fun h0_ => (Q_I8 h0_).alloc _, fun _ => blk_new w' _, fun h0_ => blk_alloc (Q_BB h0_) _, fun h0_ h1_ => blk_alloc (Q_BX h0_ h1_) _, fun h0_ => (Q_GX h0_), fun h0_ => absurd ((hoff 28 (by kernel_rfl)).symm.trans h0_) (by decide), fun _ => rfl, fun h0_ => absurd ((hoff 6 (by kernel_rfl)).symm.trans h0_) (by decide), Q_X8_, Q_X11_, Q_X27_⟩
  refine steps_cons ?_ ?_
  ·rintro b a w' ⟨gx, ga, gb, m3_, m6_, m8_, m11_, m27_, ha, Q_KB, Q_P2, Q_I0, Q_I1, Q_I2, Q_I3, Q_I4, Q_I5, Q_I6, Q_I7, Q_I8, Q_BA, Q_BB, Q_BX, Q_GX, Q_BY, Q_X3_, Q_X6_, Q_X8_, Q_X11_, Q_X27_⟩ hb_ hon hoff
   refine ⟨_, rfl, fun K hK => ?_⟩
   have e8 : a.tmps[8]? = some (.pointer (some ⟨g, 0, none⟩)) := by rw [ha]; exact (putSel_off rfl).trans rfl
   replace ha := Aside0.mk ha
   have KB := Aside0.mk Q_KB
   have P2 := Aside0.mk Q_P2
   have I1 := Aside0.mk (Q_I1 (hon 1 (by kernel_rfl)) hb_)
   refine goes_ Try.func58 (by kernel_rfl) rfl #[.pointer (some ⟨g, 0, none⟩), .int .i64 6] (by rfl) rfl rfl (by first | (simp only [List.map_toArray, List.map_cons, List.map_nil, Act.eval, Array.getD_eq_getD_getElem?, Option.getD_some, e8]; done) | (simp only [List.map_toArray, List.map_cons, List.map_nil, Act.eval, Array.getD_eq_getD_getElem?, Option.getD_some, e8]; rfl)) ?_
   with_reducible refine (spec_l6Rd_pick.calls kk g bs (q + 1) 6 t2 (q + 2) w0 w' I1.out KB.out.2 A2.out).mono ?_
   rintro e w3 ⟨rfl, hi, hb, hk⟩
   refine ⟨_, rfl, ?_⟩
   refine hK.out _ _ ⟨gx, ga, gb, m3_, m6_, m8_, m11_, m27_, (by rw [ha.out]; exact putSel_upk 3 hb_ rfl rfl rfl), ⟨KB.out.1.trans hk (.inl rfl), hb⟩, hk.blk P2.out (Ne.symm (IsS83.ne_blk I1.out P2.out (by decide))) (by simp), fun h0_ => absurd ((hon 1 (by kernel_rfl)).symm.trans h0_) (by decide), fun _ h1_ => absurd ((up_self b 5).symm.trans h1_) (by decide), fun _ _ => hi, fun h0_ _ => absurd ((hoff 10 (by kernel_rfl)).symm.trans h0_) (by decide), fun h0_ _ => absurd ((hoff 14 (by kernel_rfl)).symm.trans h0_) (by decide), fun h0_ _ => absurd ((hoff 17 (by kernel_rfl)).symm.trans h0_) (by decide), fun h0_ _ => absurd ((hoff 20 (by kernel_rfl)).symm.trans h0_) (by decide), fun h0_ _ => absurd ((hoff 22 (by kernel_rfl)).symm.trans h0_) (by decide), fun h0_ => absurd ((hoff 25 (by kernel_rfl)).symm.trans h0_) (by decide), fun h0_ => hk.blk (Q_BA h0_) (Ne.symm (IsS83.ne_blk I1.out (Q_BA h0_) (by decide))) (by simp), fun h0_ => hk.blk (Q_BB h0_) (Ne.symm (IsS83.ne_blk I1.out (Q_BB h0_) (by decide))) (by simp), fun h0_ h1_ => hk.blk (Q_BX h0_ h1_) (Ne.symm (IsS83.ne_blk I1.out (Q_BX h0_ h1_) (by decide))) (by simp), fun h0_ => (Q_GX h0_), fun h0_ => absurd ((hoff 28 (by kernel_rfl)).symm.trans h0_) (by decide), Q_X3_, fun h0_ => absurd ((hoff 6 (by kernel_rfl)).symm.trans h0_) (by decide), Q_X8_, fun h0_ => absurd ((hoff 11 (by kernel_rfl)).symm.trans h0_) (by decide), Q_X27_⟩
  refine steps_cons ?_ ?_
  ·rintro b a w' ⟨gx, ga, gb, m3_, m6_, m8_, m11_, m27_, ha, Q_KB, Q_P2, Q_I0, Q_I1, Q_I2, Q_I3, Q_I4, Q_I5, Q_I6, Q_I7, Q_I8, Q_BA, Q_BB, Q_BX, Q_GX, Q_BY, Q_X3_, Q_X6_, Q_X8_, Q_X11_, Q_X27_⟩ hb_ hon hoff
   refine ⟨_, rfl, fun K hK => ?_⟩
   have e7 : a.tmps[7]? = some (m3_) := by rw [ha]; exact putSel_on (e := (3, 7, m3_)) 2 rfl rfl (hon 3 (by kernel_rfl)) rfl
   rw [Q_X3_ (hon 3 (by kernel_rfl))] at e7
   have e9 : a.tmps[9]? = some (.int .i64 t2) := by rw [ha]; exact putSel_on (e := (5, 9, .int .i64 t2)) 3 rfl rfl (hon 5 (by kernel_rfl)) rfl
   replace ha := Aside0.mk ha
   have KB := Aside0.mk Q_KB
   have P2 := Aside0.mk Q_P2
   have BA := Aside0.mk (Q_BA (hon 3 (by kernel_rfl)))
   have p_ := T2.out.1
   have q_ := T2.out.2
   have p1_ := of_eq_true p_
   have q1_ := of_eq_true q_
   refine value_ (w1 := w') (v := .pointer (some ⟨ga, t2.toNat, none⟩)) (by rfl) rfl ?_ ?_
   ·go_simp
    (try simp only [i64_w])
    try rfl
   refine hK.out _ _ ⟨gx, ga, gb, m3_, (.pointer (some ⟨ga, t2.toNat, none⟩)), m8_, m11_, m27_, (by rw [ha.out]; exact putSel_upk 4 hb_ rfl rfl rfl), Q_KB, Q_P2, fun h0_ => absurd ((hon 1 (by kernel_rfl)).symm.trans h0_) (by decide), fun _ h1_ => absurd ((hon 5 (by kernel_rfl)).symm.trans h1_) (by decide), Q_I2, Q_I3, Q_I4, Q_I5, Q_I6, Q_I7, Q_I8, Q_BA, Q_BB, Q_BX, Q_GX, fun h0_ => absurd ((hoff 28 (by kernel_rfl)).symm.trans h0_) (by decide), Q_X3_, fun _ => rfl, Q_X8_, Q_X11_, Q_X27_⟩
  refine steps_cons ?_ ?_
  ·rintro b a w' ⟨gx, ga, gb, m3_, m6_, m8_, m11_, m27_, ha, Q_KB, Q_P2, Q_I0, Q_I1, Q_I2, Q_I3, Q_I4, Q_I5, Q_I6, Q_I7, Q_I8, Q_BA, Q_BB, Q_BX, Q_GX, Q_BY, Q_X3_, Q_X6_, Q_X8_, Q_X11_, Q_X27_⟩ hb_ hon hoff
   refine ⟨_, rfl, fun K hK => ?_⟩
   have e10 : a.tmps[10]? = some (m6_) := by rw [ha]; exact putSel_on (e := (6, 10, m6_)) 4 rfl rfl (hon 6 (by kernel_rfl)) rfl
   rw [Q_X6_ (hon 6 (by kernel_rfl))] at e10
   replace ha := Aside0.mk ha
   have KB := Aside0.mk Q_KB
   have P2 := Aside0.mk Q_P2
   have BA := Aside0.mk (Q_BA (hon 3 (by kernel_rfl)))
   have hl_ : w'.cell? ⟨ga, t2.toNat, none⟩ = some (.int .i64 y1) := (blk_cell BA.out t2.toNat).trans hy1.out
   refine value_ (w1 := w') (v := .int .i64 y1) (by rfl) rfl ?_ ?_
   ·go_simp
    (try simp only [i64_w])
    try rfl
   refine hK.out _ _ ⟨gx, ga, gb, m3_, m6_, m8_, m11_, m27_, (by rw [ha.out]; exact putSel_upk 5 hb_ rfl rfl rfl), Q_KB, Q_P2, fun h0_ => absurd ((hon 1 (by kernel_rfl)).symm.trans h0_) (by decide), fun _ h1_ => absurd ((hon 5 (by kernel_rfl)).symm.trans h1_) (by decide), Q_I2, Q_I3, Q_I4, Q_I5, Q_I6, Q_I7, Q_I8, Q_BA, Q_BB, Q_BX, Q_GX, fun h0_ => absurd ((hoff 28 (by kernel_rfl)).symm.trans h0_) (by decide), Q_X3_, Q_X6_, Q_X8_, Q_X11_, Q_X27_⟩
  refine steps_cons ?_ ?_
  ·rintro b a w' ⟨gx, ga, gb, m3_, m6_, m8_, m11_, m27_, ha, Q_KB, Q_P2, Q_I0, Q_I1, Q_I2, Q_I3, Q_I4, Q_I5, Q_I6, Q_I7, Q_I8, Q_BA, Q_BB, Q_BX, Q_GX, Q_BY, Q_X3_, Q_X6_, Q_X8_, Q_X11_, Q_X27_⟩ hb_ hon hoff
   refine ⟨_, rfl, fun K hK => ?_⟩
   replace ha := Aside0.mk ha
   have KB := Aside0.mk Q_KB
   have P2 := Aside0.mk Q_P2
   refine value_ (w1 := ?_) (v := ?_) (by rfl) rfl ?_ ?_
   rotate_left 2
   ·go_simp
    constructor
    ·rfl
    ·rfl
   refine hK.out _ _ ⟨gx, ga, w'.heap.size, m3_, m6_, (.slice (some ⟨w'.heap.size, 0, none⟩) 6 6), m11_, m27_, (by rw [ha.out]; exact putSel_upk 6 hb_ rfl rfl rfl), ⟨keep_alloc KB.out.1 _, KB.out.2.alloc KB.out.2.size _⟩, blk_alloc P2.out _, fun h0_ => (Q_I0 h0_).alloc _, fun h0_ h1_ => (Q_I1 h0_ h1_).alloc _, fun h0_ h1_ => (Q_I2 h0_ h1_).alloc _, fun h0_ h1_ => (Q_I3 h0_ h1_).alloc _, fun h0_ h1_ => (Q_I4 h0_ h1_).alloc _, fun h0_ h1_ => (Q_I5 h0_ h1_).alloc _, fun h0_ h1_ => (Q_I6 h0_ h1_).alloc _, fun h0_ h1_ => (Q_I7 h0_ h1_).alloc _, fun h0_ => (Q_I8 h0_).alloc _, fun h0_ => blk_alloc (Q_BA h0_) _, fun _ => blk_new w' _, fun h0_ h1_ => blk_alloc (Q_BX h0_ h1_) _, fun h0_ => (Q_GX h0_), fun h0_ => absurd ((hoff 28 (by kernel_rfl)).symm.trans h0_) (by decide), Q_X3_, Q_X6_, fun _ => rfl, fun h0_ => absurd ((hoff 11 (by kernel_rfl)).symm.trans h0_) (by decide), Q_X27_⟩
  refine steps_cons ?_ ?_
  ·rintro b a w' ⟨gx, ga, gb, m3_, m6_, m8_, m11_, m27_, ha, Q_KB, Q_P2, Q_I0, Q_I1, Q_I2, Q_I3, Q_I4, Q_I5, Q_I6, Q_I7, Q_I8, Q_BA, Q_BB, Q_BX, Q_GX, Q_BY, Q_X3_, Q_X6_, Q_X8_, Q_X11_, Q_X27_⟩ hb_ hon hoff
   refine ⟨_, rfl, fun K hK => ?_⟩
   have e13 : a.tmps[13]? = some (.pointer (some ⟨g, 0, none⟩)) := by rw [ha]; exact (putSel_off rfl).trans rfl
   replace ha := Aside0.mk ha
   have KB := Aside0.mk Q_KB
   have P2 := Aside0.mk Q_P2
   have I2 := Aside0.mk (Q_I2 (hon 5 (by kernel_rfl)) hb_)
   refine goes_ Try.func58 (by kernel_rfl) rfl #[.pointer (some ⟨g, 0, none⟩), .int .i64 6] (by rfl) rfl rfl (by first | (simp only [List.map_toArray, List.map_cons, List.map_nil, Act.eval, Array.getD_eq_getD_getElem?, Option.getD_some, e13]; done) | (simp only [List.map_toArray, List.map_cons, List.map_nil, Act.eval, Array.getD_eq_getD_getElem?, Option.getD_some, e13]; rfl)) ?_
   with_reducible refine (spec_l6Rd_pick.calls kk g bs (q + 2) 6 t3 (q + 3) w0 w' I2.out KB.out.2 A3.out).mono ?_
   rintro e w3 ⟨rfl, hi, hb, hk⟩
   refine ⟨_, rfl, ?_⟩
   refine hK.out _ _ ⟨gx, ga, gb, m3_, m6_, m8_, m11_, m27_, (by rw [ha.out]; exact putSel_upk 7 hb_ rfl rfl rfl), ⟨KB.out.1.trans hk (.inl rfl), hb⟩, hk.blk P2.out (Ne.symm (IsS83.ne_blk I2.out P2.out (by decide))) (by simp), fun h0_ => absurd ((hon 1 (by kernel_rfl)).symm.trans h0_) (by decide), fun _ h1_ => absurd ((hon 5 (by kernel_rfl)).symm.trans h1_) (by decide), fun _ h1_ => absurd ((up_self b 10).symm.trans h1_) (by decide), fun _ _ => hi, fun h0_ _ => absurd ((hoff 14 (by kernel_rfl)).symm.trans h0_) (by decide), fun h0_ _ => absurd ((hoff 17 (by kernel_rfl)).symm.trans h0_) (by decide), fun h0_ _ => absurd ((hoff 20 (by kernel_rfl)).symm.trans h0_) (by decide), fun h0_ _ => absurd ((hoff 22 (by kernel_rfl)).symm.trans h0_) (by decide), fun h0_ => absurd ((hoff 25 (by kernel_rfl)).symm.trans h0_) (by decide), fun h0_ => hk.blk (Q_BA h0_) (Ne.symm (IsS83.ne_blk I2.out (Q_BA h0_) (by decide))) (by simp), fun h0_ => hk.blk (Q_BB h0_) (Ne.symm (IsS83.ne_blk I2.out (Q_BB h0_) (by decide))) (by simp), fun h0_ h1_ => hk.blk (Q_BX h0_ h1_) (Ne.symm (IsS83.ne_blk I2.out (Q_BX h0_ h1_) (by decide))) (by simp), fun h0_ => (Q_GX h0_), fun h0_ => absurd ((hoff 28 (by kernel_rfl)).symm.trans h0_) (by decide), Q_X3_, Q_X6_, Q_X8_, fun h0_ => absurd ((hoff 11 (by kernel_rfl)).symm.trans h0_) (by decide), Q_X27_⟩
  refine steps_cons ?_ ?_
  ·rintro b a w' ⟨gx, ga, gb, m3_, m6_, m8_, m11_, m27_, ha, Q_KB, Q_P2, Q_I0, Q_I1, Q_I2, Q_I3, Q_I4, Q_I5, Q_I6, Q_I7, Q_I8, Q_BA, Q_BB, Q_BX, Q_GX, Q_BY, Q_X3_, Q_X6_, Q_X8_, Q_X11_, Q_X27_⟩ hb_ hon hoff
   refine ⟨_, rfl, fun K hK => ?_⟩
   have e12 : a.tmps[12]? = some (m8_) := by rw [ha]; exact putSel_on (e := (8, 12, m8_)) 6 rfl rfl (hon 8 (by kernel_rfl)) rfl
   rw [Q_X8_ (hon 8 (by kernel_rfl))] at e12
   have e14 : a.tmps[14]? = some (.int .i64 t3) := by rw [ha]; exact putSel_on (e := (10, 14, .int .i64 t3)) 7 rfl rfl (hon 10 (by kernel_rfl)) rfl
   replace ha := Aside0.mk ha
   have KB := Aside0.mk Q_KB
   have P2 := Aside0.mk Q_P2
   have BB := Aside0.mk (Q_BB (hon 8 (by kernel_rfl)))
   have p_ := T3.out.1
   have q_ := T3.out.2
   have p1_ := of_eq_true p_
   have q1_ := of_eq_true q_
   refine value_ (w1 := w') (v := .pointer (some ⟨gb, t3.toNat, none⟩)) (by rfl) rfl ?_ ?_
   ·go_simp
    (try simp only [i64_w])
    try rfl
   refine hK.out _ _ ⟨gx, ga, gb, m3_, m6_, m8_, (.pointer (some ⟨gb, t3.toNat, none⟩)), m27_, (by rw [ha.out]; exact putSel_upk 8 hb_ rfl rfl rfl), Q_KB, Q_P2, fun h0_ => absurd ((hon 1 (by kernel_rfl)).symm.trans h0_) (by decide), fun _ h1_ => absurd ((hon 5 (by kernel_rfl)).symm.trans h1_) (by decide), fun _ h1_ => absurd ((hon 10 (by kernel_rfl)).symm.trans h1_) (by decide), Q_I3, Q_I4, Q_I5, Q_I6, Q_I7, Q_I8, Q_BA, Q_BB, Q_BX, Q_GX, fun h0_ => absurd ((hoff 28 (by kernel_rfl)).symm.trans h0_) (by decide), Q_X3_, Q_X6_, Q_X8_, fun _ => rfl, Q_X27_⟩
  refine steps_cons ?_ ?_
  ·rintro b a w' ⟨gx, ga, gb, m3_, m6_, m8_, m11_, m27_, ha, Q_KB, Q_P2, Q_I0, Q_I1, Q_I2, Q_I3, Q_I4, Q_I5, Q_I6, Q_I7, Q_I8, Q_BA, Q_BB, Q_BX, Q_GX, Q_BY, Q_X3_, Q_X6_, Q_X8_, Q_X11_, Q_X27_⟩ hb_ hon hoff
   refine ⟨_, rfl, fun K hK => ?_⟩
   have e15 : a.tmps[15]? = some (m11_) := by rw [ha]; exact putSel_on (e := (11, 15, m11_)) 8 rfl rfl (hon 11 (by kernel_rfl)) rfl
   rw [Q_X11_ (hon 11 (by kernel_rfl))] at e15
   replace ha := Aside0.mk ha
   have KB := Aside0.mk Q_KB
   have P2 := Aside0.mk Q_P2
   have BB := Aside0.mk (Q_BB (hon 8 (by kernel_rfl)))
   have hl_ : w'.cell? ⟨gb, t3.toNat, none⟩ = some (.int .i64 y2) := (blk_cell BB.out t3.toNat).trans hy2.out
   refine value_ (w1 := w') (v := .int .i64 y2) (by rfl) rfl ?_ ?_
   ·go_simp
    (try simp only [i64_w])
    try rfl
   refine hK.out _ _ ⟨gx, ga, gb, m3_, m6_, m8_, m11_, m27_, (by rw [ha.out]; exact putSel_upk 9 hb_ rfl rfl rfl), Q_KB, Q_P2, fun h0_ => absurd ((hon 1 (by kernel_rfl)).symm.trans h0_) (by decide), fun _ h1_ => absurd ((hon 5 (by kernel_rfl)).symm.trans h1_) (by decide), fun _ h1_ => absurd ((hon 10 (by kernel_rfl)).symm.trans h1_) (by decide), Q_I3, Q_I4, Q_I5, Q_I6, Q_I7, Q_I8, Q_BA, Q_BB, Q_BX, Q_GX, fun h0_ => absurd ((hoff 28 (by kernel_rfl)).symm.trans h0_) (by decide), Q_X3_, Q_X6_, Q_X8_, Q_X11_, Q_X27_⟩
  refine steps_cons ?_ ?_
  ·rintro b a w' ⟨gx, ga, gb, m3_, m6_, m8_, m11_, m27_, ha, Q_KB, Q_P2, Q_I0, Q_I1, Q_I2, Q_I3, Q_I4, Q_I5, Q_I6, Q_I7, Q_I8, Q_BA, Q_BB, Q_BX, Q_GX, Q_BY, Q_X3_, Q_X6_, Q_X8_, Q_X11_, Q_X27_⟩ hb_ hon hoff
   refine ⟨_, rfl, fun K hK => ?_⟩
   have e17 : a.tmps[17]? = some (.pointer (some ⟨g, 0, none⟩)) := by rw [ha]; exact (putSel_off rfl).trans rfl
   replace ha := Aside0.mk ha
   have KB := Aside0.mk Q_KB
   have P2 := Aside0.mk Q_P2
   have I3 := Aside0.mk (Q_I3 (hon 10 (by kernel_rfl)) hb_)
   refine goes_ Try.func58 (by kernel_rfl) rfl #[.pointer (some ⟨g, 0, none⟩), .int .i64 6] (by rfl) rfl rfl (by first | (simp only [List.map_toArray, List.map_cons, List.map_nil, Act.eval, Array.getD_eq_getD_getElem?, Option.getD_some, e17]; done) | (simp only [List.map_toArray, List.map_cons, List.map_nil, Act.eval, Array.getD_eq_getD_getElem?, Option.getD_some, e17]; rfl)) ?_
   with_reducible refine (spec_l6Rd_pick.calls kk g bs (q + 3) 6 t4 (q + 4) w0 w' I3.out KB.out.2 A4.out).mono ?_
   rintro e w3 ⟨rfl, hi, hb, hk⟩
   refine ⟨_, rfl, ?_⟩
   refine hK.out _ _ ⟨gx, ga, gb, m3_, m6_, m8_, m11_, m27_, (by rw [ha.out]; exact putSel_upk 10 hb_ rfl rfl rfl), ⟨KB.out.1.trans hk (.inl rfl), hb⟩, hk.blk P2.out (Ne.symm (IsS83.ne_blk I3.out P2.out (by decide))) (by simp), fun h0_ => absurd ((hon 1 (by kernel_rfl)).symm.trans h0_) (by decide), fun _ h1_ => absurd ((hon 5 (by kernel_rfl)).symm.trans h1_) (by decide), fun _ h1_ => absurd ((hon 10 (by kernel_rfl)).symm.trans h1_) (by decide), fun _ h1_ => absurd ((up_self b 14).symm.trans h1_) (by decide), fun _ _ => hi, fun h0_ _ => absurd ((hoff 17 (by kernel_rfl)).symm.trans h0_) (by decide), fun h0_ _ => absurd ((hoff 20 (by kernel_rfl)).symm.trans h0_) (by decide), fun h0_ _ => absurd ((hoff 22 (by kernel_rfl)).symm.trans h0_) (by decide), fun h0_ => absurd ((hoff 25 (by kernel_rfl)).symm.trans h0_) (by decide), fun h0_ => hk.blk (Q_BA h0_) (Ne.symm (IsS83.ne_blk I3.out (Q_BA h0_) (by decide))) (by simp), fun h0_ => hk.blk (Q_BB h0_) (Ne.symm (IsS83.ne_blk I3.out (Q_BB h0_) (by decide))) (by simp), fun h0_ h1_ => hk.blk (Q_BX h0_ h1_) (Ne.symm (IsS83.ne_blk I3.out (Q_BX h0_ h1_) (by decide))) (by simp), fun h0_ => (Q_GX h0_), fun h0_ => absurd ((hoff 28 (by kernel_rfl)).symm.trans h0_) (by decide), Q_X3_, Q_X6_, Q_X8_, Q_X11_, Q_X27_⟩
  refine steps_cons ?_ ?_
  ·rintro b a w' ⟨gx, ga, gb, m3_, m6_, m8_, m11_, m27_, ha, Q_KB, Q_P2, Q_I0, Q_I1, Q_I2, Q_I3, Q_I4, Q_I5, Q_I6, Q_I7, Q_I8, Q_BA, Q_BB, Q_BX, Q_GX, Q_BY, Q_X3_, Q_X6_, Q_X8_, Q_X11_, Q_X27_⟩ hb_ hon hoff
   refine ⟨_, rfl, fun K hK => ?_⟩
   have e18 : a.tmps[18]? = some (.int .i64 t4) := by rw [ha]; exact putSel_on (e := (14, 18, .int .i64 t4)) 10 rfl rfl (hon 14 (by kernel_rfl)) rfl
   replace ha := Aside0.mk ha
   have KB := Aside0.mk Q_KB
   have P2 := Aside0.mk Q_P2
   refine value_ (w1 := w') (v := .int .i64 (wrap64 (1 + t4))) (by rfl) rfl ?_ ?_
   ·go_simp
    (try simp only [i64_w])
    try rfl
   refine hK.out _ _ ⟨gx, ga, gb, m3_, m6_, m8_, m11_, m27_, (by rw [ha.out]; exact putSel_upk 11 hb_ rfl rfl rfl), Q_KB, Q_P2, fun h0_ => absurd ((hon 1 (by kernel_rfl)).symm.trans h0_) (by decide), fun _ h1_ => absurd ((hon 5 (by kernel_rfl)).symm.trans h1_) (by decide), fun _ h1_ => absurd ((hon 10 (by kernel_rfl)).symm.trans h1_) (by decide), fun _ h1_ => absurd ((hon 14 (by kernel_rfl)).symm.trans h1_) (by decide), Q_I4, Q_I5, Q_I6, Q_I7, Q_I8, Q_BA, Q_BB, Q_BX, Q_GX, fun h0_ => absurd ((hoff 28 (by kernel_rfl)).symm.trans h0_) (by decide), Q_X3_, Q_X6_, Q_X8_, Q_X11_, Q_X27_⟩
  refine steps_cons ?_ ?_
  ·rintro b a w' ⟨gx, ga, gb, m3_, m6_, m8_, m11_, m27_, ha, Q_KB, Q_P2, Q_I0, Q_I1, Q_I2, Q_I3, Q_I4, Q_I5, Q_I6, Q_I7, Q_I8, Q_BA, Q_BB, Q_BX, Q_GX, Q_BY, Q_X3_, Q_X6_, Q_X8_, Q_X11_, Q_X27_⟩ hb_ hon hoff
   refine ⟨_, rfl, fun K hK => ?_⟩
   have e20 : a.tmps[20]? = some (.pointer (some ⟨g, 0, none⟩)) := by rw [ha]; exact (putSel_off rfl).trans rfl
   replace ha := Aside0.mk ha
   have KB := Aside0.mk Q_KB
   have P2 := Aside0.mk Q_P2
   have I4 := Aside0.mk (Q_I4 (hon 14 (by kernel_rfl)) hb_)
   refine goes_ Try.func58 (by kernel_rfl) rfl #[.pointer (some ⟨g, 0, none⟩), .int .i64 2] (by rfl) rfl rfl (by first | (simp only [List.map_toArray, List.map_cons, List.map_nil, Act.eval, Array.getD_eq_getD_getElem?, Option.getD_some, e20]; done) | (simp only [List.map_toArray, List.map_cons, List.map_nil, Act.eval, Array.getD_eq_getD_getElem?, Option.getD_some, e20]; rfl)) ?_
   with_reducible refine (spec_l6Rd_pick.calls kk g bs (q + 4) 2 t5 (q + 5) w0 w' I4.out KB.out.2 A5.out).mono ?_
   rintro e w3 ⟨rfl, hi, hb, hk⟩
   refine ⟨_, rfl, ?_⟩
   refine hK.out _ _ ⟨gx, ga, gb, m3_, m6_, m8_, m11_, m27_, (by rw [ha.out]; exact putSel_upk 12 hb_ rfl rfl rfl), ⟨KB.out.1.trans hk (.inl rfl), hb⟩, hk.blk P2.out (Ne.symm (IsS83.ne_blk I4.out P2.out (by decide))) (by simp), fun h0_ => absurd ((hon 1 (by kernel_rfl)).symm.trans h0_) (by decide), fun _ h1_ => absurd ((hon 5 (by kernel_rfl)).symm.trans h1_) (by decide), fun _ h1_ => absurd ((hon 10 (by kernel_rfl)).symm.trans h1_) (by decide), fun _ h1_ => absurd ((hon 14 (by kernel_rfl)).symm.trans h1_) (by decide), fun _ h1_ => absurd ((up_self b 17).symm.trans h1_) (by decide), fun _ _ => hi, fun h0_ _ => absurd ((hoff 20 (by kernel_rfl)).symm.trans h0_) (by decide), fun h0_ _ => absurd ((hoff 22 (by kernel_rfl)).symm.trans h0_) (by decide), fun h0_ => absurd ((hoff 25 (by kernel_rfl)).symm.trans h0_) (by decide), fun h0_ => hk.blk (Q_BA h0_) (Ne.symm (IsS83.ne_blk I4.out (Q_BA h0_) (by decide))) (by simp), fun h0_ => hk.blk (Q_BB h0_) (Ne.symm (IsS83.ne_blk I4.out (Q_BB h0_) (by decide))) (by simp), fun h0_ h1_ => hk.blk (Q_BX h0_ h1_) (Ne.symm (IsS83.ne_blk I4.out (Q_BX h0_ h1_) (by decide))) (by simp), fun h0_ => (Q_GX h0_), fun h0_ => absurd ((hoff 28 (by kernel_rfl)).symm.trans h0_) (by decide), Q_X3_, Q_X6_, Q_X8_, Q_X11_, Q_X27_⟩
  refine steps_cons ?_ ?_
  ·rintro b a w' ⟨gx, ga, gb, m3_, m6_, m8_, m11_, m27_, ha, Q_KB, Q_P2, Q_I0, Q_I1, Q_I2, Q_I3, Q_I4, Q_I5, Q_I6, Q_I7, Q_I8, Q_BA, Q_BB, Q_BX, Q_GX, Q_BY, Q_X3_, Q_X6_, Q_X8_, Q_X11_, Q_X27_⟩ hb_ hon hoff
   refine ⟨_, rfl, fun K hK => ?_⟩
   have e21 : a.tmps[21]? = some (.int .i64 t5) := by rw [ha]; exact putSel_on (e := (17, 21, .int .i64 t5)) 12 rfl rfl (hon 17 (by kernel_rfl)) rfl
   replace ha := Aside0.mk ha
   have KB := Aside0.mk Q_KB
   have P2 := Aside0.mk Q_P2
   refine value_ (w1 := w') (v := .int .i64 (wrap64 (1 + t5))) (by rfl) rfl ?_ ?_
   ·go_simp
    (try simp only [i64_w])
    try rfl
   refine hK.out _ _ ⟨gx, ga, gb, m3_, m6_, m8_, m11_, m27_, (by rw [ha.out]; exact putSel_upk 13 hb_ rfl rfl rfl), Q_KB, Q_P2, fun h0_ => absurd ((hon 1 (by kernel_rfl)).symm.trans h0_) (by decide), fun _ h1_ => absurd ((hon 5 (by kernel_rfl)).symm.trans h1_) (by decide), fun _ h1_ => absurd ((hon 10 (by kernel_rfl)).symm.trans h1_) (by decide), fun _ h1_ => absurd ((hon 14 (by kernel_rfl)).symm.trans h1_) (by decide), fun _ h1_ => absurd ((hon 17 (by kernel_rfl)).symm.trans h1_) (by decide), Q_I5, Q_I6, Q_I7, Q_I8, Q_BA, Q_BB, Q_BX, Q_GX, fun h0_ => absurd ((hoff 28 (by kernel_rfl)).symm.trans h0_) (by decide), Q_X3_, Q_X6_, Q_X8_, Q_X11_, Q_X27_⟩
  refine steps_cons ?_ ?_
  ·rintro b a w' ⟨gx, ga, gb, m3_, m6_, m8_, m11_, m27_, ha, Q_KB, Q_P2, Q_I0, Q_I1, Q_I2, Q_I3, Q_I4, Q_I5, Q_I6, Q_I7, Q_I8, Q_BA, Q_BB, Q_BX, Q_GX, Q_BY, Q_X3_, Q_X6_, Q_X8_, Q_X11_, Q_X27_⟩ hb_ hon hoff
   refine ⟨_, rfl, fun K hK => ?_⟩
   have e23 : a.tmps[23]? = some (.pointer (some ⟨g, 0, none⟩)) := by rw [ha]; exact (putSel_off rfl).trans rfl
   replace ha := Aside0.mk ha
   have KB := Aside0.mk Q_KB
   have P2 := Aside0.mk Q_P2
   have I5 := Aside0.mk (Q_I5 (hon 17 (by kernel_rfl)) hb_)
   refine goes_ Try.func58 (by kernel_rfl) rfl #[.pointer (some ⟨g, 0, none⟩), .int .i64 4] (by rfl) rfl rfl (by first | (simp only [List.map_toArray, List.map_cons, List.map_nil, Act.eval, Array.getD_eq_getD_getElem?, Option.getD_some, e23]; done) | (simp only [List.map_toArray, List.map_cons, List.map_nil, Act.eval, Array.getD_eq_getD_getElem?, Option.getD_some, e23]; rfl)) ?_
   with_reducible refine (spec_l6Rd_pick.calls kk g bs (q + 5) 4 t6 (q + 6) w0 w' I5.out KB.out.2 A6.out).mono ?_
   rintro e w3 ⟨rfl, hi, hb, hk⟩
   refine ⟨_, rfl, ?_⟩
   refine hK.out _ _ ⟨gx, ga, gb, m3_, m6_, m8_, m11_, m27_, (by rw [ha.out]; exact putSel_upk 14 hb_ rfl rfl rfl), ⟨KB.out.1.trans hk (.inl rfl), hb⟩, hk.blk P2.out (Ne.symm (IsS83.ne_blk I5.out P2.out (by decide))) (by simp), fun h0_ => absurd ((hon 1 (by kernel_rfl)).symm.trans h0_) (by decide), fun _ h1_ => absurd ((hon 5 (by kernel_rfl)).symm.trans h1_) (by decide), fun _ h1_ => absurd ((hon 10 (by kernel_rfl)).symm.trans h1_) (by decide), fun _ h1_ => absurd ((hon 14 (by kernel_rfl)).symm.trans h1_) (by decide), fun _ h1_ => absurd ((hon 17 (by kernel_rfl)).symm.trans h1_) (by decide), fun _ h1_ => absurd ((up_self b 20).symm.trans h1_) (by decide), fun _ _ => hi, fun h0_ _ => absurd ((hoff 22 (by kernel_rfl)).symm.trans h0_) (by decide), fun h0_ => absurd ((hoff 25 (by kernel_rfl)).symm.trans h0_) (by decide), fun h0_ => hk.blk (Q_BA h0_) (Ne.symm (IsS83.ne_blk I5.out (Q_BA h0_) (by decide))) (by simp), fun h0_ => hk.blk (Q_BB h0_) (Ne.symm (IsS83.ne_blk I5.out (Q_BB h0_) (by decide))) (by simp), fun h0_ h1_ => hk.blk (Q_BX h0_ h1_) (Ne.symm (IsS83.ne_blk I5.out (Q_BX h0_ h1_) (by decide))) (by simp), fun h0_ => (Q_GX h0_), fun h0_ => absurd ((hoff 28 (by kernel_rfl)).symm.trans h0_) (by decide), Q_X3_, Q_X6_, Q_X8_, Q_X11_, Q_X27_⟩
  refine steps_cons ?_ ?_
  ·rintro b a w' ⟨gx, ga, gb, m3_, m6_, m8_, m11_, m27_, ha, Q_KB, Q_P2, Q_I0, Q_I1, Q_I2, Q_I3, Q_I4, Q_I5, Q_I6, Q_I7, Q_I8, Q_BA, Q_BB, Q_BX, Q_GX, Q_BY, Q_X3_, Q_X6_, Q_X8_, Q_X11_, Q_X27_⟩ hb_ hon hoff
   refine ⟨_, rfl, fun K hK => ?_⟩
   have e25 : a.tmps[25]? = some (.pointer (some ⟨g, 0, none⟩)) := by rw [ha]; exact (putSel_off rfl).trans rfl
   replace ha := Aside0.mk ha
   have KB := Aside0.mk Q_KB
   have P2 := Aside0.mk Q_P2
   have I6 := Aside0.mk (Q_I6 (hon 20 (by kernel_rfl)) hb_)
   refine goes_ Try.func58 (by kernel_rfl) rfl #[.pointer (some ⟨g, 0, none⟩), .int .i64 2] (by rfl) rfl rfl (by first | (simp only [List.map_toArray, List.map_cons, List.map_nil, Act.eval, Array.getD_eq_getD_getElem?, Option.getD_some, e25]; done) | (simp only [List.map_toArray, List.map_cons, List.map_nil, Act.eval, Array.getD_eq_getD_getElem?, Option.getD_some, e25]; rfl)) ?_
   with_reducible refine (spec_l6Rd_pick.calls kk g bs (q + 6) 2 t7 (q + 7) w0 w' I6.out KB.out.2 A7.out).mono ?_
   rintro e w3 ⟨rfl, hi, hb, hk⟩
   refine ⟨_, rfl, ?_⟩
   refine hK.out _ _ ⟨gx, ga, gb, m3_, m6_, m8_, m11_, m27_, (by rw [ha.out]; exact putSel_upk 15 hb_ rfl rfl rfl), ⟨KB.out.1.trans hk (.inl rfl), hb⟩, hk.blk P2.out (Ne.symm (IsS83.ne_blk I6.out P2.out (by decide))) (by simp), fun h0_ => absurd ((hon 1 (by kernel_rfl)).symm.trans h0_) (by decide), fun _ h1_ => absurd ((hon 5 (by kernel_rfl)).symm.trans h1_) (by decide), fun _ h1_ => absurd ((hon 10 (by kernel_rfl)).symm.trans h1_) (by decide), fun _ h1_ => absurd ((hon 14 (by kernel_rfl)).symm.trans h1_) (by decide), fun _ h1_ => absurd ((hon 17 (by kernel_rfl)).symm.trans h1_) (by decide), fun _ h1_ => absurd ((hon 20 (by kernel_rfl)).symm.trans h1_) (by decide), fun _ h1_ => absurd ((up_self b 22).symm.trans h1_) (by decide), fun _ _ => hi, fun h0_ => absurd ((hoff 25 (by kernel_rfl)).symm.trans h0_) (by decide), fun h0_ => hk.blk (Q_BA h0_) (Ne.symm (IsS83.ne_blk I6.out (Q_BA h0_) (by decide))) (by simp), fun h0_ => hk.blk (Q_BB h0_) (Ne.symm (IsS83.ne_blk I6.out (Q_BB h0_) (by decide))) (by simp), fun h0_ h1_ => hk.blk (Q_BX h0_ h1_) (Ne.symm (IsS83.ne_blk I6.out (Q_BX h0_ h1_) (by decide))) (by simp), fun h0_ => (Q_GX h0_), fun h0_ => absurd ((hoff 28 (by kernel_rfl)).symm.trans h0_) (by decide), Q_X3_, Q_X6_, Q_X8_, Q_X11_, Q_X27_⟩
  refine steps_cons ?_ ?_
  ·rintro b a w' ⟨gx, ga, gb, m3_, m6_, m8_, m11_, m27_, ha, Q_KB, Q_P2, Q_I0, Q_I1, Q_I2, Q_I3, Q_I4, Q_I5, Q_I6, Q_I7, Q_I8, Q_BA, Q_BB, Q_BX, Q_GX, Q_BY, Q_X3_, Q_X6_, Q_X8_, Q_X11_, Q_X27_⟩ hb_ hon hoff
   refine ⟨_, rfl, fun K hK => ?_⟩
   have e26 : a.tmps[26]? = some (.int .i64 t7) := by rw [ha]; exact putSel_on (e := (22, 26, .int .i64 t7)) 15 rfl rfl (hon 22 (by kernel_rfl)) rfl
   replace ha := Aside0.mk ha
   have KB := Aside0.mk Q_KB
   have P2 := Aside0.mk Q_P2
   refine value_ (w1 := w') (v := .bool (t7 == 0)) (by rfl) rfl ?_ ?_
   ·go_simp
    (try simp only [i64_w])
    try rfl
   refine hK.out _ _ ⟨gx, ga, gb, m3_, m6_, m8_, m11_, m27_, (by rw [ha.out]; exact putSel_upk 16 hb_ rfl rfl rfl), Q_KB, Q_P2, fun h0_ => absurd ((hon 1 (by kernel_rfl)).symm.trans h0_) (by decide), fun _ h1_ => absurd ((hon 5 (by kernel_rfl)).symm.trans h1_) (by decide), fun _ h1_ => absurd ((hon 10 (by kernel_rfl)).symm.trans h1_) (by decide), fun _ h1_ => absurd ((hon 14 (by kernel_rfl)).symm.trans h1_) (by decide), fun _ h1_ => absurd ((hon 17 (by kernel_rfl)).symm.trans h1_) (by decide), fun _ h1_ => absurd ((hon 20 (by kernel_rfl)).symm.trans h1_) (by decide), fun _ h1_ => absurd ((hon 22 (by kernel_rfl)).symm.trans h1_) (by decide), Q_I7, Q_I8, Q_BA, Q_BB, Q_BX, Q_GX, fun h0_ => absurd ((hoff 28 (by kernel_rfl)).symm.trans h0_) (by decide), Q_X3_, Q_X6_, Q_X8_, Q_X11_, Q_X27_⟩
  refine steps_cons ?_ ?_
  ·rintro b a w' ⟨gx, ga, gb, m3_, m6_, m8_, m11_, m27_, ha, Q_KB, Q_P2, Q_I0, Q_I1, Q_I2, Q_I3, Q_I4, Q_I5, Q_I6, Q_I7, Q_I8, Q_BA, Q_BB, Q_BX, Q_GX, Q_BY, Q_X3_, Q_X6_, Q_X8_, Q_X11_, Q_X27_⟩ hb_ hon hoff
   refine ⟨_, rfl, fun K hK => ?_⟩
   have e28 : a.tmps[28]? = some (.pointer (some ⟨g, 0, none⟩)) := by rw [ha]; exact (putSel_off rfl).trans rfl
   replace ha := Aside0.mk ha
   have KB := Aside0.mk Q_KB
   have P2 := Aside0.mk Q_P2
   have I7 := Aside0.mk (Q_I7 (hon 22 (by kernel_rfl)) hb_)
   refine goes_ Try.func58 (by kernel_rfl) rfl #[.pointer (some ⟨g, 0, none⟩), .int .i64 4] (by rfl) rfl rfl (by first | (simp only [List.map_toArray, List.map_cons, List.map_nil, Act.eval, Array.getD_eq_getD_getElem?, Option.getD_some, e28]; done) | (simp only [List.map_toArray, List.map_cons, List.map_nil, Act.eval, Array.getD_eq_getD_getElem?, Option.getD_some, e28]; rfl)) ?_
   with_reducible refine (spec_l6Rd_pick.calls kk g bs (q + 7) 4 t8 (q + 8) w0 w' I7.out KB.out.2 A8.out).mono ?_
   rintro e w3 ⟨rfl, hi, hb, hk⟩
   refine ⟨_, rfl, ?_⟩
   refine hK.out _ _ ⟨gx, ga, gb, m3_, m6_, m8_, m11_, m27_, (by rw [ha.out]; exact putSel_upk 17 hb_ rfl rfl rfl), ⟨KB.out.1.trans hk (.inl rfl), hb⟩, hk.blk P2.out (Ne.symm (IsS83.ne_blk I7.out P2.out (by decide))) (by simp), fun h0_ => absurd ((hon 1 (by kernel_rfl)).symm.trans h0_) (by decide), fun _ h1_ => absurd ((hon 5 (by kernel_rfl)).symm.trans h1_) (by decide), fun _ h1_ => absurd ((hon 10 (by kernel_rfl)).symm.trans h1_) (by decide), fun _ h1_ => absurd ((hon 14 (by kernel_rfl)).symm.trans h1_) (by decide), fun _ h1_ => absurd ((hon 17 (by kernel_rfl)).symm.trans h1_) (by decide), fun _ h1_ => absurd ((hon 20 (by kernel_rfl)).symm.trans h1_) (by decide), fun _ h1_ => absurd ((hon 22 (by kernel_rfl)).symm.trans h1_) (by decide), fun _ h1_ => absurd ((up_self b 25).symm.trans h1_) (by decide), fun _ => hi, fun h0_ => hk.blk (Q_BA h0_) (Ne.symm (IsS83.ne_blk I7.out (Q_BA h0_) (by decide))) (by simp), fun h0_ => hk.blk (Q_BB h0_) (Ne.symm (IsS83.ne_blk I7.out (Q_BB h0_) (by decide))) (by simp), fun h0_ h1_ => hk.blk (Q_BX h0_ h1_) (Ne.symm (IsS83.ne_blk I7.out (Q_BX h0_ h1_) (by decide))) (by simp), fun h0_ => (Q_GX h0_), fun h0_ => absurd ((hoff 28 (by kernel_rfl)).symm.trans h0_) (by decide), Q_X3_, Q_X6_, Q_X8_, Q_X11_, Q_X27_⟩
  refine steps_cons ?_ ?_
  ·rintro b a w' ⟨gx, ga, gb, m3_, m6_, m8_, m11_, m27_, ha, Q_KB, Q_P2, Q_I0, Q_I1, Q_I2, Q_I3, Q_I4, Q_I5, Q_I6, Q_I7, Q_I8, Q_BA, Q_BB, Q_BX, Q_GX, Q_BY, Q_X3_, Q_X6_, Q_X8_, Q_X11_, Q_X27_⟩ hb_ hon hoff
   refine ⟨_, rfl, fun K hK => ?_⟩
   have e6 : a.tmps[6]? = some (.int .i64 (wrap64 (1 + t1))) := by rw [ha]; exact putSel_on (e := (2, 6, .int .i64 (wrap64 (1 + t1)))) 1 rfl rfl (hon 2 (by kernel_rfl)) rfl
   have e11 : a.tmps[11]? = some (.int .i64 y1) := by rw [ha]; exact putSel_on (e := (7, 11, .int .i64 y1)) 5 rfl rfl (hon 7 (by kernel_rfl)) rfl
   have e16 : a.tmps[16]? = some (.int .i64 y2) := by rw [ha]; exact putSel_on (e := (12, 16, .int .i64 y2)) 9 rfl rfl (hon 12 (by kernel_rfl)) rfl
   have e19 : a.tmps[19]? = some (.int .i64 (wrap64 (1 + t4))) := by rw [ha]; exact putSel_on (e := (15, 19, .int .i64 (wrap64 (1 + t4)))) 11 rfl rfl (hon 15 (by kernel_rfl)) rfl
   have e22 : a.tmps[22]? = some (.int .i64 (wrap64 (1 + t5))) := by rw [ha]; exact putSel_on (e := (18, 22, .int .i64 (wrap64 (1 + t5)))) 13 rfl rfl (hon 18 (by kernel_rfl)) rfl
   have e24 : a.tmps[24]? = some (.int .i64 t6) := by rw [ha]; exact putSel_on (e := (20, 24, .int .i64 t6)) 14 rfl rfl (hon 20 (by kernel_rfl)) rfl
   have e27 : a.tmps[27]? = some (.bool (t7 == 0)) := by rw [ha]; exact putSel_on (e := (23, 27, .bool (t7 == 0))) 16 rfl rfl (hon 23 (by kernel_rfl)) rfl
   have e29 : a.tmps[29]? = some (.int .i64 t8) := by rw [ha]; exact putSel_on (e := (25, 29, .int .i64 t8)) 17 rfl rfl (hon 25 (by kernel_rfl)) rfl
   replace ha := Aside0.mk ha
   have KB := Aside0.mk Q_KB
   have P2 := Aside0.mk Q_P2
   have I8 := Aside0.mk (Q_I8 (hon 25 (by kernel_rfl)))
   have BA := Aside0.mk (Q_BA (hon 3 (by kernel_rfl)))
   have BB := Aside0.mk (Q_BB (hon 8 (by kernel_rfl)))
   refine value_ (w1 := w') (v := .agg #[.int .i64 (wrap64 (1 + t1)), .int .i64 y1, .int .i64 y2, .int .i64 (wrap64 (1 + t4)), .int .i64 (wrap64 (1 + t5)), .int .i64 t6, .bool (t7 == 0), .slice none 0 0, .slice none 0 0, .int .i64 t8, .slice none 0 0, .int .i64 0, .int .i64 0, .int .i64 0, .string ⟨#[]⟩, .int .i64 0, .int .i64 0]) (by rfl) rfl ?_ ?_
   ·go_simp
    (try simp only [i64_w])
    try rfl
   refine hK.out _ _ ⟨gx, ga, gb, m3_, m6_, m8_, m11_, m27_, (by rw [ha.out]; exact putSel_upk 18 hb_ rfl rfl rfl), Q_KB, Q_P2, fun h0_ => absurd ((hon 1 (by kernel_rfl)).symm.trans h0_) (by decide), fun _ h1_ => absurd ((hon 5 (by kernel_rfl)).symm.trans h1_) (by decide), fun _ h1_ => absurd ((hon 10 (by kernel_rfl)).symm.trans h1_) (by decide), fun _ h1_ => absurd ((hon 14 (by kernel_rfl)).symm.trans h1_) (by decide), fun _ h1_ => absurd ((hon 17 (by kernel_rfl)).symm.trans h1_) (by decide), fun _ h1_ => absurd ((hon 20 (by kernel_rfl)).symm.trans h1_) (by decide), fun _ h1_ => absurd ((hon 22 (by kernel_rfl)).symm.trans h1_) (by decide), fun _ h1_ => absurd ((hon 25 (by kernel_rfl)).symm.trans h1_) (by decide), Q_I8, Q_BA, Q_BB, Q_BX, Q_GX, fun h0_ => absurd ((hoff 28 (by kernel_rfl)).symm.trans h0_) (by decide), Q_X3_, Q_X6_, Q_X8_, Q_X11_, Q_X27_⟩
  refine steps_cons ?_ ?_
  ·rintro b a w' ⟨gx, ga, gb, m3_, m6_, m8_, m11_, m27_, ha, Q_KB, Q_P2, Q_I0, Q_I1, Q_I2, Q_I3, Q_I4, Q_I5, Q_I6, Q_I7, Q_I8, Q_BA, Q_BB, Q_BX, Q_GX, Q_BY, Q_X3_, Q_X6_, Q_X8_, Q_X11_, Q_X27_⟩ hb_ hon hoff
   refine ⟨_, rfl, fun K hK => ?_⟩
   replace ha := Aside0.mk ha
   have KB := Aside0.mk Q_KB
   have P2 := Aside0.mk Q_P2
   refine value_ (w1 := ?_) (v := ?_) (by rfl) rfl ?_ ?_
   rotate_left 2
   ·go_simp
    constructor
    ·rfl
    ·rfl
   refine hK.out _ _ ⟨w'.heap.size, ga, gb, m3_, m6_, m8_, m11_, (.pointer (some ⟨w'.heap.size, 0, none⟩)), (by rw [ha.out]; exact putSel_upk 19 hb_ rfl rfl rfl), ⟨keep_alloc KB.out.1 _, KB.out.2.alloc KB.out.2.size _⟩, blk_alloc P2.out _, fun h0_ => (Q_I0 h0_).alloc _, fun h0_ h1_ => (Q_I1 h0_ h1_).alloc _, fun h0_ h1_ => (Q_I2 h0_ h1_).alloc _, fun h0_ h1_ => (Q_I3 h0_ h1_).alloc _, fun h0_ h1_ => (Q_I4 h0_ h1_).alloc _, fun h0_ h1_ => (Q_I5 h0_ h1_).alloc _, fun h0_ h1_ => (Q_I6 h0_ h1_).alloc _, fun h0_ h1_ => (Q_I7 h0_ h1_).alloc _, fun h0_ => (Q_I8 h0_).alloc _, fun h0_ => blk_alloc (Q_BA h0_) _, fun h0_ => blk_alloc (Q_BB h0_) _, fun _ _ => blk_new w' _, fun _ => blk_lt P2.out, fun h0_ => absurd ((hoff 28 (by kernel_rfl)).symm.trans h0_) (by decide), Q_X3_, Q_X6_, Q_X8_, Q_X11_, fun _ => rfl⟩
  refine steps_cons ?_ ?_
  ·rintro b a w' ⟨gx, ga, gb, m3_, m6_, m8_, m11_, m27_, ha, Q_KB, Q_P2, Q_I0, Q_I1, Q_I2, Q_I3, Q_I4, Q_I5, Q_I6, Q_I7, Q_I8, Q_BA, Q_BB, Q_BX, Q_GX, Q_BY, Q_X3_, Q_X6_, Q_X8_, Q_X11_, Q_X27_⟩ hb_ hon hoff
   refine ⟨_, rfl, fun K hK => ?_⟩
   have e3 : a.tmps[3]? = some (m27_) := by rw [ha]; exact putSel_on (e := (27, 3, m27_)) 19 rfl rfl (hon 27 (by kernel_rfl)) rfl
   rw [Q_X27_ (hon 27 (by kernel_rfl))] at e3
   have e30 : a.tmps[30]? = some (.agg #[.int .i64 (wrap64 (1 + t1)), .int .i64 y1, .int .i64 y2, .int .i64 (wrap64 (1 + t4)), .int .i64 (wrap64 (1 + t5)), .int .i64 t6, .bool (t7 == 0), .slice none 0 0, .slice none 0 0, .int .i64 t8, .slice none 0 0, .int .i64 0, .int .i64 0, .int .i64 0, .string ⟨#[]⟩, .int .i64 0, .int .i64 0]) := by rw [ha]; exact putSel_on (e := (26, 30, .agg #[.int .i64 (wrap64 (1 + t1)), .int .i64 y1, .int .i64 y2, .int .i64 (wrap64 (1 + t4)), .int .i64 (wrap64 (1 + t5)), .int .i64 t6, .bool (t7 == 0), .slice none 0 0, .slice none 0 0, .int .i64 t8, .slice none 0 0, .int .i64 0, .int .i64 0, .int .i64 0, .string ⟨#[]⟩, .int .i64 0, .int .i64 0])) 18 rfl rfl (hon 26 (by kernel_rfl)) rfl
   replace ha := Aside0.mk ha
   have KB := Aside0.mk Q_KB
   have P2 := Aside0.mk Q_P2
   have I8 := Aside0.mk (Q_I8 (hon 25 (by kernel_rfl)))
   have BA := Aside0.mk (Q_BA (hon 3 (by kernel_rfl)))
   have BB := Aside0.mk (Q_BB (hon 8 (by kernel_rfl)))
   have BX := Aside0.mk (Q_BX (hon 27 (by kernel_rfl)) hb_)
   have GX := Aside0.mk (Q_GX (hon 27 (by kernel_rfl)))
   refine st_ (by rfl) 33 (.tmp 3) (.tmp 30) rfl gx #[.int .i64 (wrap64 (1 + t1)), .int .i64 y1, .int .i64 y2, .int .i64 (wrap64 (1 + t4)), .int .i64 (wrap64 (1 + t5)), .int .i64 t6, .bool (t7 == 0), .slice none 0 0, .slice none 0 0, .int .i64 t8, .slice none 0 0, .int .i64 0, .int .i64 0, .int .i64 0, .string ⟨#[]⟩, .int .i64 0, .int .i64 0] (by simp only [Act.eval, Array.getD_eq_getD_getElem?, Option.getD_some, e3]) (by simp only [Act.eval, Array.getD_eq_getD_getElem?, Option.getD_some, e30]) 33 #[.int .i64 0, .int .i64 0, .int .i64 0, .int .i64 0, .int .i64 0, .int .i64 0, .bool false, .slice none 0 0, .slice none 0 0, .int .i64 0, .slice none 0 0, .int .i64 0, .int .i64 0, .int .i64 0, .string ⟨#[]⟩, .int .i64 0, .int .i64 0] BX.out (by kernel_rfl) rfl (by simp [Value.oneCell']) ?_
   refine hK.out _ _ ⟨gx, ga, gb, m3_, m6_, m8_, m11_, m27_, (by rw [ha.out]; exact putSel_none (v := undef) rfl), ⟨keep_setRow KB.out.1 (Nat.le_of_lt GX.out) _, below_setRow' KB.out.2 (Nat.le_trans hle.out (Nat.le_of_lt GX.out)) _⟩, (setRow_other _ _ _ _ (show w.heap.size ≠ gx from Nat.ne_of_lt GX.out)).trans P2.out, fun h0_ => absurd ((hon 1 (by kernel_rfl)).symm.trans h0_) (by decide), fun _ h1_ => absurd ((hon 5 (by kernel_rfl)).symm.trans h1_) (by decide), fun _ h1_ => absurd ((hon 10 (by kernel_rfl)).symm.trans h1_) (by decide), fun _ h1_ => absurd ((hon 14 (by kernel_rfl)).symm.trans h1_) (by decide), fun _ h1_ => absurd ((hon 17 (by kernel_rfl)).symm.trans h1_) (by decide), fun _ h1_ => absurd ((hon 20 (by kernel_rfl)).symm.trans h1_) (by decide), fun _ h1_ => absurd ((hon 22 (by kernel_rfl)).symm.trans h1_) (by decide), fun _ h1_ => absurd ((hon 25 (by kernel_rfl)).symm.trans h1_) (by decide), fun _ => IsS83.row I8.out (IsS83.ne_blk I8.out BX.out (by decide)) _, fun _ => (setRow_other _ _ _ _ (blk_ne BA.out BX.out (by decide))).trans BA.out, fun _ => (setRow_other _ _ _ _ (blk_ne BB.out BX.out (by decide))).trans BB.out, fun _ h1_ => absurd ((up_self b 28).symm.trans h1_) (by decide), fun _ => GX.out, fun _ => setRow_heap _ _ _ _ _ _ BX.out, Q_X3_, Q_X6_, Q_X8_, Q_X11_, Q_X27_⟩
  exact steps_nil
 ·rintro b a w' hall ⟨gx, ga, gb, m3_, m6_, m8_, m11_, m27_, ha, Q_KB, Q_P2, Q_I0, Q_I1, Q_I2, Q_I3, Q_I4, Q_I5, Q_I6, Q_I7, Q_I8, Q_BA, Q_BB, Q_BX, Q_GX, Q_BY, Q_X3_, Q_X6_, Q_X8_, Q_X11_, Q_X27_⟩
  clear I0 KB P2
  have hb1_ := hall 1 (by kernel_rfl)
  have hb2_ := hall 2 (by kernel_rfl)
  have hb3_ := hall 3 (by kernel_rfl)
  have hb5_ := hall 5 (by kernel_rfl)
  have hb6_ := hall 6 (by kernel_rfl)
  have hb7_ := hall 7 (by kernel_rfl)
  have hb8_ := hall 8 (by kernel_rfl)
  have hb10_ := hall 10 (by kernel_rfl)
  have hb11_ := hall 11 (by kernel_rfl)
  have hb12_ := hall 12 (by kernel_rfl)
  have hb14_ := hall 14 (by kernel_rfl)
  have hb15_ := hall 15 (by kernel_rfl)
  have hb17_ := hall 17 (by kernel_rfl)
  have hb18_ := hall 18 (by kernel_rfl)
  have hb20_ := hall 20 (by kernel_rfl)
  have hb22_ := hall 22 (by kernel_rfl)
  have hb23_ := hall 23 (by kernel_rfl)
  have hb25_ := hall 25 (by kernel_rfl)
  have hb26_ := hall 26 (by kernel_rfl)
  have hb27_ := hall 27 (by kernel_rfl)
  have hb28_ := hall 28 (by kernel_rfl)
  subst ha
  obtain rfl := Q_X3_ hb3_
  obtain rfl := Q_X6_ hb6_
  obtain rfl := Q_X8_ hb8_
  obtain rfl := Q_X11_ hb11_
  obtain rfl := Q_X27_ hb27_
  simp only [putSel, hb1_, hb2_, hb3_, hb5_, hb6_, hb7_, hb8_, hb10_, hb11_, hb12_, hb14_, hb15_, hb17_, hb18_, hb20_, hb22_, hb23_, hb25_, hb26_, hb27_, hb28_, if_true, Act.put, List.setIfInBounds_toArray, List.set_cons_zero, List.set_cons_succ]
  have KB := Aside0.mk Q_KB
  clear Q_KB
  have P2 := Aside0.mk Q_P2
  clear Q_P2
  clear Q_I0
  clear Q_I1
  clear Q_I2
  clear Q_I3
  clear Q_I4
  clear Q_I5
  clear Q_I6
  clear Q_I7
  have I8 := Aside0.mk (Q_I8 hb25_)
  clear Q_I8
  have BA := Aside0.mk (Q_BA hb3_)
  clear Q_BA
  have BB := Aside0.mk (Q_BB hb8_)
  clear Q_BB
  clear Q_BX
  have GX := Aside0.mk (Q_GX hb27_)
  clear Q_GX
  have BY := Aside0.mk (Q_BY hb28_)
  clear Q_BY
  clear hall hb1_ hb2_ hb3_ hb5_ hb6_ hb7_ hb8_ hb10_ hb11_ hb12_ hb14_ hb15_ hb17_ hb18_ hb20_ hb22_ hb23_ hb25_ hb26_ hb27_ hb28_
  have I := Aside0.mk (show RdS w0 w w' g bs (m + 8) from ⟨HBY.out, hle.out, q + 8, by have := HQ.out; omega, by have := HQ.out; omega, I8.out, KB.out.2, KB.out.1⟩)
  generalize wrap64 (1 + t1) = n0 at BY ⊢
  generalize wrap64 (1 + t4) = n3 at BY ⊢
  generalize wrap64 (1 + t5) = n4 at BY ⊢
  generalize (t7 == 0) = yes at BY ⊢
  have WA := Aside0.mk (show WAt w' w.heap.size gx from ⟨n0, y1, y2, n3, n4, t6, yes, none, 0, none, 0, t8, none, 0, 0, 0, 0, ⟨#[]⟩, 0, 0, [], [], [], BY.out, Kd.R_nil _ _ _ _ _, Kd.R_nil _ _ _ _ _, Kd.R_nil _ _ _ _ _, by decide⟩)
  clear KB I8 BY A1 A2 A3 A4 A5 A6 A7 A8 T2 T3 hy1 hy2 HBY HQ hle HW_ HT_ hwd BA BB
  obtain ⟨WB, e_⟩ : ∃ X, X = w' := ⟨_, rfl⟩
  subst e_
  simp only [Exit.then]
  apply_assumption
  refine wp_seq_k (fun K hK => ?_)
  go_cut [] (fun wx => Aside0 (RdS w0 w wx g bs (m + 150)) ∧ Aside0 (wx.heap[w.heap.size]? = some (.cells #[.int .i64 0, .int .i64 0, .int .i64 0, .int .i64 0, .int .i64 0, .int .i64 0, .bool false, .slice none 0 0, .slice none 0 0, .int .i64 0, .slice none 0 0, .int .i64 0, .int .i64 0, .int .i64 0, .string ⟨#[]⟩, .int .i64 0, .int .i64 0] 33 (0, 0))) ∧ Aside0 (WAt wx w.heap.size gx))
  case first =>
   obtain ⟨n0, n1, n2, n3, n4, n5, yes, A7, c7, A8, c8, n9, A10, c10, m0, m1, m2, tx, m4, m5, ls, lp, lv, p3, r7, r8, r10, hl_⟩ := WA.out
   have P3 := Aside0.mk p3
   have R7 := Aside0.mk r7
   have R8 := Aside0.mk r8
   have R10 := Aside0.mk r10
   have HL := Aside0.mk hl_
   clear WA p3 r7 r8 r10 hl_
   have ZZ := Aside0.mk (And.intro GX.out (And.intro I.out.kept.1 (blk_lt P3.out)))
   go_wp2_with (fail)
   refine (I.out.pick 4 (by have := HM.out; omega) (by decide) (by decide)).mono ?_
   rintro e W51 ⟨t, ht0_, ht1_, rfl, hi, hk⟩
   have Tt := Aside0.mk (And.intro ht0_ ht1_)
   clear ht0_ ht1_
   have ZZ := Aside0.mk (And.intro ZZ.out (hk.1))
   have P2 := Aside0.mk (I.out.blk hk P2.out (by decide))
   have P3 := Aside0.mk (I.out.blk hk P3.out (by decide))
   have R7 := Aside0.mk (I.out.rows hk R7.out (by decide))
   have R8 := Aside0.mk (I.out.rows hk R8.out (by decide))
   have R10 := Aside0.mk (I.out.rows hk R10.out (by decide))
   have I := Aside0.mk hi
   clear hi hk
   by_cases c0_ : t = 0
   ·have c0t : (t == 0) = true := beq_iff_eq.mpr c0_
    clear c0_
    go_wp2_with (fail)
    have hsz_ := I.out.kept.1
    refine (slotsR I.out (by have := HM.out; omega)).mono ?_
    rintro e W52 ⟨v_, z, rfl, hr, hz, hi, hk⟩
    obtain ⟨AL, cL, e0⟩ := Kd.R_slice hr
    subst e0
    have QL := Aside0.mk (Kd.R_lower hr hsz_)
    have HZ := Aside0.mk hz
    clear hr hz hsz_
    have ZZ := Aside0.mk (And.intro ZZ.out (hk.1))
    have P2 := Aside0.mk (I.out.blk hk P2.out (by decide))
    have P3 := Aside0.mk (I.out.blk hk P3.out (by decide))
    have R8 := Aside0.mk (I.out.rows hk R8.out (by decide))
    have R10 := Aside0.mk (I.out.rows hk R10.out (by decide))
    have I := Aside0.mk hi
    clear hi hk
    have R7 := QL
    clear QL
    have hc0 := (blk_cell P3.out 0).trans (show _ = some (.int .i64 n0) from rfl)
    have hcf0 := blk_frozen P3.out 0
    have hc1 := (blk_cell P3.out 1).trans (show _ = some (.int .i64 n1) from rfl)
    have hcf1 := blk_frozen P3.out 1
    have hc2 := (blk_cell P3.out 2).trans (show _ = some (.int .i64 n2) from rfl)
    have hcf2 := blk_frozen P3.out 2
    have hc3 := (blk_cell P3.out 3).trans (show _ = some (.int .i64 n3) from rfl)
    have hcf3 := blk_frozen P3.out 3
    have hc4 := (blk_cell P3.out 4).trans (show _ = some (.int .i64 n4) from rfl)
    have hcf4 := blk_frozen P3.out 4
    have hc5 := (blk_cell P3.out 5).trans (show _ = some (.int .i64 n5) from rfl)
    have hcf5 := blk_frozen P3.out 5
    have hc6 := (blk_cell P3.out 6).trans (show _ = some (.bool yes) from rfl)
    have hcf6 := blk_frozen P3.out 6
    have hc7 := (blk_cell P3.out 7).trans (show _ = some (.slice A7 ls.length c7) from rfl)
    have hcf7 := blk_frozen P3.out 7
    have hc8 := (blk_cell P3.out 8).trans (show _ = some (.slice A8 lp.length c8) from rfl)
    have hcf8 := blk_frozen P3.out 8
    have hc9 := (blk_cell P3.out 9).trans (show _ = some (.int .i64 n9) from rfl)
    have hcf9 := blk_frozen P3.out 9
    have hc10 := (blk_cell P3.out 10).trans (show _ = some (.slice A10 lv.length c10) from rfl)
    have hcf10 := blk_frozen P3.out 10
    have hc11 := (blk_cell P3.out 11).trans (show _ = some (.int .i64 m0) from rfl)
    have hcf11 := blk_frozen P3.out 11
    have hc12 := (blk_cell P3.out 12).trans (show _ = some (.int .i64 m1) from rfl)
    have hcf12 := blk_frozen P3.out 12
    have hc13 := (blk_cell P3.out 13).trans (show _ = some (.int .i64 m2) from rfl)
    have hcf13 := blk_frozen P3.out 13
    have hc14 := (blk_cell P3.out 14).trans (show _ = some (.string tx) from rfl)
    have hcf14 := blk_frozen P3.out 14
    have hc15 := (blk_cell P3.out 15).trans (show _ = some (.int .i64 m4) from rfl)
    have hcf15 := blk_frozen P3.out 15
    have hc16 := (blk_cell P3.out 16).trans (show _ = some (.int .i64 m5) from rfl)
    have hcf16 := blk_frozen P3.out 16
    have P2 := Aside0.mk (blk_far (p := ⟨gx, 7, none⟩) P2.out (show w.heap.size ≠ gx by have := ZZ.out; omega) (.slice AL z.length cL))
    have R8 := Aside0.mk (Kd.R_set R8.out P3.out (by decide) 7 (.slice AL z.length cL))
    have R10 := Aside0.mk (Kd.R_set R10.out P3.out (by decide) 7 (.slice AL z.length cL))
    have R7 := Aside0.mk (Kd.R_set R7.out P3.out (by decide) 7 (.slice AL z.length cL))
    have I := Aside0.mk (I.out.set P3.out (by decide) (by have := ZZ.out; omega) 7 (.slice AL z.length cL))
    have P3 := Aside0.mk (blk_put (cs' := #[.int .i64 n0, .int .i64 n1, .int .i64 n2, .int .i64 n3, .int .i64 n4, .int .i64 n5, .bool yes, .slice AL z.length cL, .slice A8 lp.length c8, .int .i64 n9, .slice A10 lv.length c10, .int .i64 m0, .int .i64 m1, .int .i64 m2, .string tx, .int .i64 m4, .int .i64 m5]) P3.out 7 (.slice AL z.length cL) rfl)
    have ZZ := Aside0.mk (And.intro ZZ.out (show W52.heap.size ≤ (W52.setCell ⟨gx, 7, none⟩ (.slice AL z.length cL)).heap.size by simp))
    go_wp2_with (fail)
    clear hc0 hcf0 hc1 hcf1 hc2 hcf2 hc3 hcf3 hc4 hcf4 hc5 hcf5 hc6 hcf6 hc7 hcf7 hc8 hcf8 hc9 hcf9 hc10 hcf10 hc11 hcf11 hc12 hcf12 hc13 hcf13 hc14 hcf14 hc15 hcf15 hc16 hcf16
    go_meet
    case rel => exact ⟨⟨I.out.more (by omega)⟩, P2, ⟨⟨n0, n1, n2, n3, n4, n5, yes, AL, cL, A8, c8, n9, A10, c10, m0, m1, m2, tx, m4, m5, z, lp, lv, P3.out, R7.out, R8.out, R10.out, ⟨HZ.out, HL.out.2.1, HL.out.2.2⟩⟩⟩⟩
   have c0f : (t == 0) = false := beq_eq_false_iff_ne.mpr c0_
   clear c0_
   by_cases c1_ : t = 1
   ·have c1t : (t == 1) = true := beq_iff_eq.mpr c1_
    clear c1_
    go_wp2_with (fail)
    have hsz_ := I.out.kept.1
    refine (pairsR I.out (by have := HM.out; omega)).mono ?_
    rintro e W54 ⟨v_, z, rfl, hr, hz, hi, hk⟩
    obtain ⟨AL, cL, e0⟩ := Kd.R_slice hr
    subst e0
    have QL := Aside0.mk (Kd.R_lower hr hsz_)
    have HZ := Aside0.mk hz
    clear hr hz hsz_
    have ZZ := Aside0.mk (And.intro ZZ.out (hk.1))
    have P2 := Aside0.mk (I.out.blk hk P2.out (by decide))
    have P3 := Aside0.mk (I.out.blk hk P3.out (by decide))
    have R7 := Aside0.mk (I.out.rows hk R7.out (by decide))
    have R10 := Aside0.mk (I.out.rows hk R10.out (by decide))
    have I := Aside0.mk hi
    clear hi hk
    have R8 := QL
    clear QL
    have hc0 := (blk_cell P3.out 0).trans (show _ = some (.int .i64 n0) from rfl)
    have hcf0 := blk_frozen P3.out 0
    have hc1 := (blk_cell P3.out 1).trans (show _ = some (.int .i64 n1) from rfl)
    have hcf1 := blk_frozen P3.out 1
    have hc2 := (blk_cell P3.out 2).trans (show _ = some (.int .i64 n2) from rfl)
    have hcf2 := blk_frozen P3.out 2
    have hc3 := (blk_cell P3.out 3).trans (show _ = some (.int .i64 n3) from rfl)
    have hcf3 := blk_frozen P3.out 3
    have hc4 := (blk_cell P3.out 4).trans (show _ = some (.int .i64 n4) from rfl)
    have hcf4 := blk_frozen P3.out 4
    have hc5 := (blk_cell P3.out 5).trans (show _ = some (.int .i64 n5) from rfl)
    have hcf5 := blk_frozen P3.out 5
    have hc6 := (blk_cell P3.out 6).trans (show _ = some (.bool yes) from rfl)
    have hcf6 := blk_frozen P3.out 6
    have hc7 := (blk_cell P3.out 7).trans (show _ = some (.slice A7 ls.length c7) from rfl)
    have hcf7 := blk_frozen P3.out 7
    have hc8 := (blk_cell P3.out 8).trans (show _ = some (.slice A8 lp.length c8) from rfl)
    have hcf8 := blk_frozen P3.out 8
    have hc9 := (blk_cell P3.out 9).trans (show _ = some (.int .i64 n9) from rfl)
    have hcf9 := blk_frozen P3.out 9
    have hc10 := (blk_cell P3.out 10).trans (show _ = some (.slice A10 lv.length c10) from rfl)
    have hcf10 := blk_frozen P3.out 10
    have hc11 := (blk_cell P3.out 11).trans (show _ = some (.int .i64 m0) from rfl)
    have hcf11 := blk_frozen P3.out 11
    have hc12 := (blk_cell P3.out 12).trans (show _ = some (.int .i64 m1) from rfl)
    have hcf12 := blk_frozen P3.out 12
    have hc13 := (blk_cell P3.out 13).trans (show _ = some (.int .i64 m2) from rfl)
    have hcf13 := blk_frozen P3.out 13
    have hc14 := (blk_cell P3.out 14).trans (show _ = some (.string tx) from rfl)
    have hcf14 := blk_frozen P3.out 14
    have hc15 := (blk_cell P3.out 15).trans (show _ = some (.int .i64 m4) from rfl)
    have hcf15 := blk_frozen P3.out 15
    have hc16 := (blk_cell P3.out 16).trans (show _ = some (.int .i64 m5) from rfl)
    have hcf16 := blk_frozen P3.out 16
    have P2 := Aside0.mk (blk_far (p := ⟨gx, 8, none⟩) P2.out (show w.heap.size ≠ gx by have := ZZ.out; omega) (.slice AL z.length cL))
    have R7 := Aside0.mk (Kd.R_set R7.out P3.out (by decide) 8 (.slice AL z.length cL))
    have R10 := Aside0.mk (Kd.R_set R10.out P3.out (by decide) 8 (.slice AL z.length cL))
    have R8 := Aside0.mk (Kd.R_set R8.out P3.out (by decide) 8 (.slice AL z.length cL))
    have I := Aside0.mk (I.out.set P3.out (by decide) (by have := ZZ.out; omega) 8 (.slice AL z.length cL))
    have P3 := Aside0.mk (blk_put (cs' := #[.int .i64 n0, .int .i64 n1, .int .i64 n2, .int .i64 n3, .int .i64 n4, .int .i64 n5, .bool yes, .slice A7 ls.length c7, .slice AL z.length cL, .int .i64 n9, .slice A10 lv.length c10, .int .i64 m0, .int .i64 m1, .int .i64 m2, .string tx, .int .i64 m4, .int .i64 m5]) P3.out 8 (.slice AL z.length cL) rfl)
    have ZZ := Aside0.mk (And.intro ZZ.out (show W54.heap.size ≤ (W54.setCell ⟨gx, 8, none⟩ (.slice AL z.length cL)).heap.size by simp))
    go_wp2_with (fail)
    clear hc0 hcf0 hc1 hcf1 hc2 hcf2 hc3 hcf3 hc4 hcf4 hc5 hcf5 hc6 hcf6 hc7 hcf7 hc8 hcf8 hc9 hcf9 hc10 hcf10 hc11 hcf11 hc12 hcf12 hc13 hcf13 hc14 hcf14 hc15 hcf15 hc16 hcf16
    go_meet
    case rel => exact ⟨⟨I.out.more (by omega)⟩, P2, ⟨⟨n0, n1, n2, n3, n4, n5, yes, A7, c7, AL, cL, n9, A10, c10, m0, m1, m2, tx, m4, m5, ls, z, lv, P3.out, R7.out, R8.out, R10.out, ⟨HL.out.1, HZ.out, HL.out.2.2⟩⟩⟩⟩
   have c1f : (t == 1) = false := beq_eq_false_iff_ne.mpr c1_
   clear c1_
   by_cases c2_ : t = 2
   ·have c2t : (t == 2) = true := beq_iff_eq.mpr c2_
    clear c2_
    go_wp2_with (fail)
    refine (I.out.pick 9 (by have := HM.out; omega) (by decide) (by decide)).mono ?_
    rintro e W56 ⟨u, ht0_, ht1_, rfl, hi, hk⟩
    have Tu := Aside0.mk (And.intro ht0_ ht1_)
    clear ht0_ ht1_
    have ZZ := Aside0.mk (And.intro ZZ.out (hk.1))
    have P2 := Aside0.mk (I.out.blk hk P2.out (by decide))
    have P3 := Aside0.mk (I.out.blk hk P3.out (by decide))
    have R7 := Aside0.mk (I.out.rows hk R7.out (by decide))
    have R8 := Aside0.mk (I.out.rows hk R8.out (by decide))
    have R10 := Aside0.mk (I.out.rows hk R10.out (by decide))
    have I := Aside0.mk hi
    clear hi hk
    go_wp2_with (fail)
    refine (I.out.pick 4 (by have := HM.out; omega) (by decide) (by decide)).mono ?_
    rintro e W57 ⟨v, ht0_, ht1_, rfl, hi, hk⟩
    have Tv := Aside0.mk (And.intro ht0_ ht1_)
    clear ht0_ ht1_
    have ZZ := Aside0.mk (And.intro ZZ.out (hk.1))
    have P2 := Aside0.mk (I.out.blk hk P2.out (by decide))
    have P3 := Aside0.mk (I.out.blk hk P3.out (by decide))
    have R7 := Aside0.mk (I.out.rows hk R7.out (by decide))
    have R8 := Aside0.mk (I.out.rows hk R8.out (by decide))
    have R10 := Aside0.mk (I.out.rows hk R10.out (by decide))
    have I := Aside0.mk hi
    clear hi hk
    go_wp2_with (((with_reducible refine gate_dst (N := 50) rfl ?_); refine Kd.R_lit (Kd.int .i64) _ 3 ?hg (N := 50) ?hd (xs := ([u, wrap64 (-v)] : List Int)) (inner := [.int .i64 u, .int .i64 (wrap64 (-v))]) (ok := fun _ => True) (okp := fun _ => True) ?hr ?hp (fun _ hk => hk) trivial (Below.refl _ _) (Nat.le_refl _) (by simp) ?_; (case hd => rfl); (case hg => rfl); (case hr => first | (go_simp; done) | (go_simp; rfl)); (case hp => exact (Reps.one (show Kd.M (Kd.int .i64) _ _ _ u [.int .i64 u] from rfl) (Reps.one (show Kd.M (Kd.int .i64) _ _ _ (wrap64 (-v)) [.int .i64 (wrap64 (-v))] from rfl) (Reps.none _ _)))); intro va W58 qa hb hg_ hn_; clear hg_ hn_; have hsz_ := I.out.kept.1; have P2 := kb P2 hb; have P3 := kb P3 hb; have R7 := Aside0.mk (Kd.R_below R7.out hb); have R8 := Aside0.mk (Kd.R_below R8.out hb); have I := Aside0.mk (I.out.below hb); have R10 := Aside0.mk (Kd.R_lower qa hsz_); have ZZ := Aside0.mk (And.intro ZZ.out hb.size); clear hb hsz_ qa; obtain ⟨AL, cL, e0⟩ := Kd.R_slice R10.out; subst e0; have hc_ := (blk_cell P3.out 10).trans (show _ = some (.slice A10 lv.length c10) from rfl); have hf_ := blk_frozen P3.out 10))
    have P2 := Aside0.mk (blk_far (p := ⟨gx, 10, none⟩) P2.out (show w.heap.size ≠ gx by have := ZZ.out; omega) (.slice AL [u, wrap64 (-v)].length cL))
    have R7 := Aside0.mk (Kd.R_set R7.out P3.out (by decide) 10 (.slice AL [u, wrap64 (-v)].length cL))
    have R8 := Aside0.mk (Kd.R_set R8.out P3.out (by decide) 10 (.slice AL [u, wrap64 (-v)].length cL))
    have R10 := Aside0.mk (Kd.R_set R10.out P3.out (by decide) 10 (.slice AL [u, wrap64 (-v)].length cL))
    have I := Aside0.mk (I.out.set P3.out (by decide) (by have := ZZ.out; omega) 10 (.slice AL [u, wrap64 (-v)].length cL))
    have P3 := Aside0.mk (blk_put (cs' := #[.int .i64 n0, .int .i64 n1, .int .i64 n2, .int .i64 n3, .int .i64 n4, .int .i64 n5, .bool yes, .slice A7 ls.length c7, .slice A8 lp.length c8, .int .i64 n9, .slice AL [u, wrap64 (-v)].length cL, .int .i64 m0, .int .i64 m1, .int .i64 m2, .string tx, .int .i64 m4, .int .i64 m5]) P3.out 10 (.slice AL [u, wrap64 (-v)].length cL) rfl)
    have ZZ := Aside0.mk (And.intro ZZ.out (show W58.heap.size ≤ (W58.setCell ⟨gx, 10, none⟩ (.slice AL [u, wrap64 (-v)].length cL)).heap.size by simp))
    clear hc_ hf_
    go_meet
    case rel => exact ⟨⟨I.out.more (by omega)⟩, P2, ⟨⟨n0, n1, n2, n3, n4, n5, yes, A7, c7, A8, c8, n9, AL, cL, m0, m1, m2, tx, m4, m5, ls, lp, [u, wrap64 (-v)], P3.out, R7.out, R8.out, R10.out, ⟨HL.out.1, HL.out.2.1, (show 2 ≤ 64 by decide)⟩⟩⟩⟩
   have c2f : (t == 2) = false := beq_eq_false_iff_ne.mpr c2_
   clear c2_
   go_wp2_with (fail)
   go_meet
   case rel => exact ⟨⟨I.out.more (by omega)⟩, P2, ⟨⟨n0, n1, n2, n3, n4, n5, yes, A7, c7, A8, c8, n9, A10, c10, m0, m1, m2, tx, m4, m5, ls, lp, lv, P3.out, R7.out, R8.out, R10.out, HL.out⟩⟩⟩
  case rest =>
   repeat clear P2
   repeat clear I
   repeat clear WA
   obtain ⟨I, P2, WA⟩ := hcut
   obtain ⟨W60, e_⟩ : ∃ X, X = wc := ⟨_, rfl⟩
   subst e_
   apply hK
   clear hK K
   refine wp_seq_k (fun K hK => ?_)
   go_cut [] (fun wx => Aside0 (RdS w0 w wx g bs (m + 195)) ∧ Aside0 (wx.heap[w.heap.size]? = some (.cells #[.int .i64 0, .int .i64 0, .int .i64 0, .int .i64 0, .int .i64 0, .int .i64 0, .bool false, .slice none 0 0, .slice none 0 0, .int .i64 0, .slice none 0 0, .int .i64 0, .int .i64 0, .int .i64 0, .string ⟨#[]⟩, .int .i64 0, .int .i64 0] 33 (0, 0))) ∧ Aside0 (WAt wx w.heap.size gx))
   case first =>
    obtain ⟨n0, n1, n2, n3, n4, n5, yes, A7, c7, A8, c8, n9, A10, c10, m0, m1, m2, tx, m4, m5, ls, lp, lv, p3, r7, r8, r10, hl_⟩ := WA.out
    have P3 := Aside0.mk p3
    have R7 := Aside0.mk r7
    have R8 := Aside0.mk r8
    have R10 := Aside0.mk r10
    have HL := Aside0.mk hl_
    clear WA p3 r7 r8 r10 hl_
    have ZZ := Aside0.mk (And.intro GX.out (And.intro I.out.kept.1 (blk_lt P3.out)))
    go_wp2_with (fail)
    refine (I.out.pick 3 (by have := HM.out; omega) (by decide) (by decide)).mono ?_
    rintro e W61 ⟨t, ht0_, ht1_, rfl, hi, hk⟩
    have Tt := Aside0.mk (And.intro ht0_ ht1_)
    clear ht0_ ht1_
    have ZZ := Aside0.mk (And.intro ZZ.out (hk.1))
    have P2 := Aside0.mk (I.out.blk hk P2.out (by decide))
    have P3 := Aside0.mk (I.out.blk hk P3.out (by decide))
    have R7 := Aside0.mk (I.out.rows hk R7.out (by decide))
    have R8 := Aside0.mk (I.out.rows hk R8.out (by decide))
    have R10 := Aside0.mk (I.out.rows hk R10.out (by decide))
    have I := Aside0.mk hi
    clear hi hk
    by_cases c_ : t = 0
    ·have ct : (t == 0) = true := beq_iff_eq.mpr c_
     clear c_
     go_wp2_with (fail)
     refine (callW w0 W61 g bs _ I.out.here (by have := HM.out; omega)).mono ?_
     rintro e W62 ⟨x0, x1, x2, tz, x4, x5, rfl, hi_⟩
     have hk := hi_.kept
     have hi := I.out.then_ hi_
     clear hi_
     have ZZ := Aside0.mk (And.intro ZZ.out (hk.1))
     have P2 := Aside0.mk (I.out.blk hk P2.out (by decide))
     have P3 := Aside0.mk (I.out.blk hk P3.out (by decide))
     have R7 := Aside0.mk (I.out.rows hk R7.out (by decide))
     have R8 := Aside0.mk (I.out.rows hk R8.out (by decide))
     have R10 := Aside0.mk (I.out.rows hk R10.out (by decide))
     have I := Aside0.mk hi
     clear hi hk
     have hc0 := (blk_cell P3.out 0).trans (show _ = some (.int .i64 n0) from rfl)
     have hcf0 := blk_frozen P3.out 0
     have hc1 := (blk_cell P3.out 1).trans (show _ = some (.int .i64 n1) from rfl)
     have hcf1 := blk_frozen P3.out 1
     have hc2 := (blk_cell P3.out 2).trans (show _ = some (.int .i64 n2) from rfl)
     have hcf2 := blk_frozen P3.out 2
     have hc3 := (blk_cell P3.out 3).trans (show _ = some (.int .i64 n3) from rfl)
     have hcf3 := blk_frozen P3.out 3
     have hc4 := (blk_cell P3.out 4).trans (show _ = some (.int .i64 n4) from rfl)
     have hcf4 := blk_frozen P3.out 4
     have hc5 := (blk_cell P3.out 5).trans (show _ = some (.int .i64 n5) from rfl)
     have hcf5 := blk_frozen P3.out 5
     have hc6 := (blk_cell P3.out 6).trans (show _ = some (.bool yes) from rfl)
     have hcf6 := blk_frozen P3.out 6
     have hc7 := (blk_cell P3.out 7).trans (show _ = some (.slice A7 ls.length c7) from rfl)
     have hcf7 := blk_frozen P3.out 7
     have hc8 := (blk_cell P3.out 8).trans (show _ = some (.slice A8 lp.length c8) from rfl)
     have hcf8 := blk_frozen P3.out 8
     have hc9 := (blk_cell P3.out 9).trans (show _ = some (.int .i64 n9) from rfl)
     have hcf9 := blk_frozen P3.out 9
     have hc10 := (blk_cell P3.out 10).trans (show _ = some (.slice A10 lv.length c10) from rfl)
     have hcf10 := blk_frozen P3.out 10
     have hc11 := (blk_cell P3.out 11).trans (show _ = some (.int .i64 m0) from rfl)
     have hcf11 := blk_frozen P3.out 11
     have hc12 := (blk_cell P3.out 12).trans (show _ = some (.int .i64 m1) from rfl)
     have hcf12 := blk_frozen P3.out 12
     have hc13 := (blk_cell P3.out 13).trans (show _ = some (.int .i64 m2) from rfl)
     have hcf13 := blk_frozen P3.out 13
     have hc14 := (blk_cell P3.out 14).trans (show _ = some (.string tx) from rfl)
     have hcf14 := blk_frozen P3.out 14
     have hc15 := (blk_cell P3.out 15).trans (show _ = some (.int .i64 m4) from rfl)
     have hcf15 := blk_frozen P3.out 15
     have hc16 := (blk_cell P3.out 16).trans (show _ = some (.int .i64 m5) from rfl)
     have hcf16 := blk_frozen P3.out 16
     have P2 := Aside0.mk (blk_far (p := ⟨gx, 11, none⟩) P2.out (show w.heap.size ≠ gx by have := ZZ.out; omega) (.int .i64 x0))
     have R7 := Aside0.mk (Kd.R_set R7.out P3.out (by decide) 11 (.int .i64 x0))
     have R8 := Aside0.mk (Kd.R_set R8.out P3.out (by decide) 11 (.int .i64 x0))
     have R10 := Aside0.mk (Kd.R_set R10.out P3.out (by decide) 11 (.int .i64 x0))
     have I := Aside0.mk (I.out.set P3.out (by decide) (by have := ZZ.out; omega) 11 (.int .i64 x0))
     have P3 := Aside0.mk (blk_put (cs' := #[.int .i64 n0, .int .i64 n1, .int .i64 n2, .int .i64 n3, .int .i64 n4, .int .i64 n5, .bool yes, .slice A7 ls.length c7, .slice A8 lp.length c8, .int .i64 n9, .slice A10 lv.length c10, .int .i64 x0, .int .i64 m1, .int .i64 m2, .string tx, .int .i64 m4, .int .i64 m5]) P3.out 11 (.int .i64 x0) rfl)
     have ZZ := Aside0.mk (And.intro ZZ.out (show W62.heap.size ≤ (W62.setCell ⟨gx, 11, none⟩ (.int .i64 x0)).heap.size by simp))
     have P2 := Aside0.mk (blk_far (p := ⟨gx, 12, none⟩) P2.out (show w.heap.size ≠ gx by have := ZZ.out; omega) (.int .i64 x1))
     have R7 := Aside0.mk (Kd.R_set R7.out P3.out (by decide) 12 (.int .i64 x1))
     have R8 := Aside0.mk (Kd.R_set R8.out P3.out (by decide) 12 (.int .i64 x1))
     have R10 := Aside0.mk (Kd.R_set R10.out P3.out (by decide) 12 (.int .i64 x1))
     have I := Aside0.mk (I.out.set P3.out (by decide) (by have := ZZ.out; omega) 12 (.int .i64 x1))
     have P3 := Aside0.mk (blk_put (cs' := #[.int .i64 n0, .int .i64 n1, .int .i64 n2, .int .i64 n3, .int .i64 n4, .int .i64 n5, .bool yes, .slice A7 ls.length c7, .slice A8 lp.length c8, .int .i64 n9, .slice A10 lv.length c10, .int .i64 x0, .int .i64 x1, .int .i64 m2, .string tx, .int .i64 m4, .int .i64 m5]) P3.out 12 (.int .i64 x1) rfl)
     have ZZ := Aside0.mk (And.intro ZZ.out (show (W62.setCell ⟨gx, 11, none⟩ (.int .i64 x0)).heap.size ≤ ((W62.setCell ⟨gx, 11, none⟩ (.int .i64 x0)).setCell ⟨gx, 12, none⟩ (.int .i64 x1)).heap.size by simp))
     have P2 := Aside0.mk (blk_far (p := ⟨gx, 13, none⟩) P2.out (show w.heap.size ≠ gx by have := ZZ.out; omega) (.int .i64 x2))
     have R7 := Aside0.mk (Kd.R_set R7.out P3.out (by decide) 13 (.int .i64 x2))
     have R8 := Aside0.mk (Kd.R_set R8.out P3.out (by decide) 13 (.int .i64 x2))
     have R10 := Aside0.mk (Kd.R_set R10.out P3.out (by decide) 13 (.int .i64 x2))
     have I := Aside0.mk (I.out.set P3.out (by decide) (by have := ZZ.out; omega) 13 (.int .i64 x2))
     have P3 := Aside0.mk (blk_put (cs' := #[.int .i64 n0, .int .i64 n1, .int .i64 n2, .int .i64 n3, .int .i64 n4, .int .i64 n5, .bool yes, .slice A7 ls.length c7, .slice A8 lp.length c8, .int .i64 n9, .slice A10 lv.length c10, .int .i64 x0, .int .i64 x1, .int .i64 x2, .string tx, .int .i64 m4, .int .i64 m5]) P3.out 13 (.int .i64 x2) rfl)
     have ZZ := Aside0.mk (And.intro ZZ.out (show ((W62.setCell ⟨gx, 11, none⟩ (.int .i64 x0)).setCell ⟨gx, 12, none⟩ (.int .i64 x1)).heap.size ≤ (((W62.setCell ⟨gx, 11, none⟩ (.int .i64 x0)).setCell ⟨gx, 12, none⟩ (.int .i64 x1)).setCell ⟨gx, 13, none⟩ (.int .i64 x2)).heap.size by simp))
     have P2 := Aside0.mk (blk_far (p := ⟨gx, 14, none⟩) P2.out (show w.heap.size ≠ gx by have := ZZ.out; omega) (.string tz))
     have R7 := Aside0.mk (Kd.R_set R7.out P3.out (by decide) 14 (.string tz))
     have R8 := Aside0.mk (Kd.R_set R8.out P3.out (by decide) 14 (.string tz))
     have R10 := Aside0.mk (Kd.R_set R10.out P3.out (by decide) 14 (.string tz))
     have I := Aside0.mk (I.out.set P3.out (by decide) (by have := ZZ.out; omega) 14 (.string tz))
     have P3 := Aside0.mk (blk_put (cs' := #[.int .i64 n0, .int .i64 n1, .int .i64 n2, .int .i64 n3, .int .i64 n4, .int .i64 n5, .bool yes, .slice A7 ls.length c7, .slice A8 lp.length c8, .int .i64 n9, .slice A10 lv.length c10, .int .i64 x0, .int .i64 x1, .int .i64 x2, .string tz, .int .i64 m4, .int .i64 m5]) P3.out 14 (.string tz) rfl)
     have ZZ := Aside0.mk (And.intro ZZ.out (show (((W62.setCell ⟨gx, 11, none⟩ (.int .i64 x0)).setCell ⟨gx, 12, none⟩ (.int .i64 x1)).setCell ⟨gx, 13, none⟩ (.int .i64 x2)).heap.size ≤ ((((W62.setCell ⟨gx, 11, none⟩ (.int .i64 x0)).setCell ⟨gx, 12, none⟩ (.int .i64 x1)).setCell ⟨gx, 13, none⟩ (.int .i64 x2)).setCell ⟨gx, 14, none⟩ (.string tz)).heap.size by simp))
     have P2 := Aside0.mk (blk_far (p := ⟨gx, 15, none⟩) P2.out (show w.heap.size ≠ gx by have := ZZ.out; omega) (.int .i64 x4))
     have R7 := Aside0.mk (Kd.R_set R7.out P3.out (by decide) 15 (.int .i64 x4))
     have R8 := Aside0.mk (Kd.R_set R8.out P3.out (by decide) 15 (.int .i64 x4))
     have R10 := Aside0.mk (Kd.R_set R10.out P3.out (by decide) 15 (.int .i64 x4))
     have I := Aside0.mk (I.out.set P3.out (by decide) (by have := ZZ.out; omega) 15 (.int .i64 x4))
     have P3 := Aside0.mk (blk_put (cs' := #[.int .i64 n0, .int .i64 n1, .int .i64 n2, .int .i64 n3, .int .i64 n4, .int .i64 n5, .bool yes, .slice A7 ls.length c7, .slice A8 lp.length c8, .int .i64 n9, .slice A10 lv.length c10, .int .i64 x0, .int .i64 x1, .int .i64 x2, .string tz, .int .i64 x4, .int .i64 m5]) P3.out 15 (.int .i64 x4) rfl)
     have ZZ := Aside0.mk (And.intro ZZ.out (show ((((W62.setCell ⟨gx, 11, none⟩ (.int .i64 x0)).setCell ⟨gx, 12, none⟩ (.int .i64 x1)).setCell ⟨gx, 13, none⟩ (.int .i64 x2)).setCell ⟨gx, 14, none⟩ (.string tz)).heap.size ≤ (((((W62.setCell ⟨gx, 11, none⟩ (.int .i64 x0)).setCell ⟨gx, 12, none⟩ (.int .i64 x1)).setCell ⟨gx, 13, none⟩ (.int .i64 x2)).setCell ⟨gx, 14, none⟩ (.string tz)).setCell ⟨gx, 15, none⟩ (.int .i64 x4)).heap.size by simp))
     have P2 := Aside0.mk (blk_far (p := ⟨gx, 16, none⟩) P2.out (show w.heap.size ≠ gx by have := ZZ.out; omega) (.int .i64 x5))
     have R7 := Aside0.mk (Kd.R_set R7.out P3.out (by decide) 16 (.int .i64 x5))
     have R8 := Aside0.mk (Kd.R_set R8.out P3.out (by decide) 16 (.int .i64 x5))
     have R10 := Aside0.mk (Kd.R_set R10.out P3.out (by decide) 16 (.int .i64 x5))
     have I := Aside0.mk (I.out.set P3.out (by decide) (by have := ZZ.out; omega) 16 (.int .i64 x5))
     have P3 := Aside0.mk (blk_put (cs' := #[.int .i64 n0, .int .i64 n1, .int .i64 n2, .int .i64 n3, .int .i64 n4, .int .i64 n5, .bool yes, .slice A7 ls.length c7, .slice A8 lp.length c8, .int .i64 n9, .slice A10 lv.length c10, .int .i64 x0, .int .i64 x1, .int .i64 x2, .string tz, .int .i64 x4, .int .i64 x5]) P3.out 16 (.int .i64 x5) rfl)
     have ZZ := Aside0.mk (And.intro ZZ.out (show (((((W62.setCell ⟨gx, 11, none⟩ (.int .i64 x0)).setCell ⟨gx, 12, none⟩ (.int .i64 x1)).setCell ⟨gx, 13, none⟩ (.int .i64 x2)).setCell ⟨gx, 14, none⟩ (.string tz)).setCell ⟨gx, 15, none⟩ (.int .i64 x4)).heap.size ≤ ((((((W62.setCell ⟨gx, 11, none⟩ (.int .i64 x0)).setCell ⟨gx, 12, none⟩ (.int .i64 x1)).setCell ⟨gx, 13, none⟩ (.int .i64 x2)).setCell ⟨gx, 14, none⟩ (.string tz)).setCell ⟨gx, 15, none⟩ (.int .i64 x4)).setCell ⟨gx, 16, none⟩ (.int .i64 x5)).heap.size by simp))
     go_wp2_with (fail)
     clear hc0 hcf0 hc1 hcf1 hc2 hcf2 hc3 hcf3 hc4 hcf4 hc5 hcf5 hc6 hcf6 hc7 hcf7 hc8 hcf8 hc9 hcf9 hc10 hcf10 hc11 hcf11 hc12 hcf12 hc13 hcf13 hc14 hcf14 hc15 hcf15 hc16 hcf16
     go_meet
     case rel => exact ⟨⟨I.out.more (by omega)⟩, P2, ⟨⟨n0, n1, n2, n3, n4, n5, yes, A7, c7, A8, c8, n9, A10, c10, x0, x1, x2, tz, x4, x5, ls, lp, lv, P3.out, R7.out, R8.out, R10.out, HL.out⟩⟩⟩
    ·have cf : (t == 0) = false := beq_eq_false_iff_ne.mpr c_
     clear c_
     go_wp2_with (fail)
     go_meet
     case rel => exact ⟨⟨I.out.more (by omega)⟩, P2, ⟨⟨n0, n1, n2, n3, n4, n5, yes, A7, c7, A8, c8, n9, A10, c10, m0, m1, m2, tx, m4, m5, ls, lp, lv, P3.out, R7.out, R8.out, R10.out, HL.out⟩⟩⟩
   case rest =>
    repeat clear P2
    repeat clear I
    repeat clear WA
    obtain ⟨I, P2, WA⟩ := hcut
    obtain ⟨W69, e_⟩ : ∃ X, X = wc := ⟨_, rfl⟩
    subst e_
    apply hK
    clear hK K
    refine wp_seq_k (fun K hK => ?_)
    go_cut [] (fun wx => Aside0 (RdS w0 w wx g bs (m + 220)) ∧ Aside0 (wx.heap[w.heap.size]? = some (.cells #[.int .i64 0, .int .i64 0, .int .i64 0, .int .i64 0, .int .i64 0, .int .i64 0, .bool false, .slice none 0 0, .slice none 0 0, .int .i64 0, .slice none 0 0, .int .i64 0, .int .i64 0, .int .i64 0, .string ⟨#[]⟩, .int .i64 0, .int .i64 0] 33 (0, 0))) ∧ Aside0 (WAt wx w.heap.size gx))
    case first =>
     obtain ⟨n0, n1, n2, n3, n4, n5, yes, A7, c7, A8, c8, n9, A10, c10, m0, m1, m2, tx, m4, m5, ls, lp, lv, p3, r7, r8, r10, hl_⟩ := WA.out
     have P3 := Aside0.mk p3
     have R7 := Aside0.mk r7
     have R8 := Aside0.mk r8
     have R10 := Aside0.mk r10
     have HL := Aside0.mk hl_
     clear WA p3 r7 r8 r10 hl_
     have ZZ := Aside0.mk (And.intro GX.out (And.intro I.out.kept.1 (blk_lt P3.out)))
     go_wp2_with (fail)
     refine (I.out.pick 20 (by have := HM.out; omega) (by decide) (by decide)).mono ?_
     rintro e W70 ⟨t, ht0_, ht1_, rfl, hi, hk⟩
     have Tt := Aside0.mk (And.intro ht0_ ht1_)
     clear ht0_ ht1_
     have ZZ := Aside0.mk (And.intro ZZ.out (hk.1))
     have P2 := Aside0.mk (I.out.blk hk P2.out (by decide))
     have P3 := Aside0.mk (I.out.blk hk P3.out (by decide))
     have R7 := Aside0.mk (I.out.rows hk R7.out (by decide))
     have R8 := Aside0.mk (I.out.rows hk R8.out (by decide))
     have R10 := Aside0.mk (I.out.rows hk R10.out (by decide))
     have I := Aside0.mk hi
     clear hi hk
     by_cases c0_ : t = 0
     ·have c0t : (t == 0) = true := beq_iff_eq.mpr c0_
      clear c0_
      have hb := below_alloc (Below.refl W70.heap.size W70) (.cells #[.int .i64 0, .int .i64 10] 3 (0, 0))
      have ZZ := Aside0.mk (And.intro ZZ.out ((hb).size))
      have P2 := kb P2 (hb)
      have P3 := kb P3 (hb)
      have R7 := Aside0.mk (Kd.R_below R7.out (hb))
      have R8 := Aside0.mk (Kd.R_below R8.out (hb))
      have R10 := Aside0.mk (Kd.R_below R10.out (hb))
      have I := Aside0.mk (I.out.below (hb))
      clear hb
      have PL := Aside0.mk (blk_new W70 (.cells #[.int .i64 0, .int .i64 10] 3 (0, 0)))
      have ZZ := Aside0.mk (And.intro ZZ.out (blk_lt PL.out))
      go_wp2_with (fail)
      generalize W70.alloc (.cells #[.int .i64 0, .int .i64 10] 3 (0, 0)) = W71 at ZZ P2 P3 PL R7 R8 R10 I ⊢
      obtain ⟨bL, hq_⟩ : ∃ bL, bL = W70.heap.size := ⟨_, rfl⟩
      rw [← hq_] at PL ZZ ⊢
      have ZZ := Aside0.mk (And.intro ZZ.out (hq_))
      clear hq_
      refine (I.out.pick 2 (by have := HM.out; omega) (by decide) (by decide)).mono ?_
      rintro e W72 ⟨u, ht0_, ht1_, rfl, hi, hk⟩
      have Tu := Aside0.mk (And.intro ht0_ ht1_)
      clear ht0_ ht1_
      have ZZ := Aside0.mk (And.intro ZZ.out (hk.1))
      have P2 := Aside0.mk (I.out.blk hk P2.out (by decide))
      have P3 := Aside0.mk (I.out.blk hk P3.out (by decide))
      have PL := Aside0.mk (I.out.blk hk PL.out (by decide))
      have R7 := Aside0.mk (I.out.rows hk R7.out (by decide))
      have R8 := Aside0.mk (I.out.rows hk R8.out (by decide))
      have R10 := Aside0.mk (I.out.rows hk R10.out (by decide))
      have I := Aside0.mk hi
      clear hi hk
      obtain ⟨y, hy⟩ : ∃ y : Int, (#[.int .i64 0, .int .i64 10] : Array Value)[u.toNat]? = some (.int .i64 y) := ints_at [0, 10] u Tu.out.1 Tu.out.2
      have hl_ : W72.cell? ⟨bL, u.toNat, none⟩ = some (.int .i64 y) := (blk_cell PL.out u.toNat).trans hy
      have p_ := eq_true Tu.out.1
      have q_ := eq_true Tu.out.2
      have p1_ := Tu.out.1
      have q1_ := Tu.out.2
      have hc0 := (blk_cell P3.out 0).trans (show _ = some (.int .i64 n0) from rfl)
      have hcf0 := blk_frozen P3.out 0
      have hc1 := (blk_cell P3.out 1).trans (show _ = some (.int .i64 n1) from rfl)
      have hcf1 := blk_frozen P3.out 1
      have hc2 := (blk_cell P3.out 2).trans (show _ = some (.int .i64 n2) from rfl)
      have hcf2 := blk_frozen P3.out 2
      have hc3 := (blk_cell P3.out 3).trans (show _ = some (.int .i64 n3) from rfl)
      have hcf3 := blk_frozen P3.out 3
      have hc4 := (blk_cell P3.out 4).trans (show _ = some (.int .i64 n4) from rfl)
      have hcf4 := blk_frozen P3.out 4
      have hc5 := (blk_cell P3.out 5).trans (show _ = some (.int .i64 n5) from rfl)
      have hcf5 := blk_frozen P3.out 5
      have hc6 := (blk_cell P3.out 6).trans (show _ = some (.bool yes) from rfl)
      have hcf6 := blk_frozen P3.out 6
      have hc7 := (blk_cell P3.out 7).trans (show _ = some (.slice A7 ls.length c7) from rfl)
      have hcf7 := blk_frozen P3.out 7
      have hc8 := (blk_cell P3.out 8).trans (show _ = some (.slice A8 lp.length c8) from rfl)
      have hcf8 := blk_frozen P3.out 8
      have hc9 := (blk_cell P3.out 9).trans (show _ = some (.int .i64 n9) from rfl)
      have hcf9 := blk_frozen P3.out 9
      have hc10 := (blk_cell P3.out 10).trans (show _ = some (.slice A10 lv.length c10) from rfl)
      have hcf10 := blk_frozen P3.out 10
      have hc11 := (blk_cell P3.out 11).trans (show _ = some (.int .i64 m0) from rfl)
      have hcf11 := blk_frozen P3.out 11
      have hc12 := (blk_cell P3.out 12).trans (show _ = some (.int .i64 m1) from rfl)
      have hcf12 := blk_frozen P3.out 12
      have hc13 := (blk_cell P3.out 13).trans (show _ = some (.int .i64 m2) from rfl)
      have hcf13 := blk_frozen P3.out 13
      have hc14 := (blk_cell P3.out 14).trans (show _ = some (.string tx) from rfl)
      have hcf14 := blk_frozen P3.out 14
      have hc15 := (blk_cell P3.out 15).trans (show _ = some (.int .i64 m4) from rfl)
      have hcf15 := blk_frozen P3.out 15
      have hc16 := (blk_cell P3.out 16).trans (show _ = some (.int .i64 m5) from rfl)
      have hcf16 := blk_frozen P3.out 16
      have P2 := Aside0.mk (blk_far (p := ⟨gx, 0, none⟩) P2.out (show w.heap.size ≠ gx by have := ZZ.out; omega) (.int .i64 y))
      have PL := Aside0.mk (blk_far (p := ⟨gx, 0, none⟩) PL.out (show bL ≠ gx by have := ZZ.out; omega) (.int .i64 y))
      have R7 := Aside0.mk (Kd.R_set R7.out P3.out (by decide) 0 (.int .i64 y))
      have R8 := Aside0.mk (Kd.R_set R8.out P3.out (by decide) 0 (.int .i64 y))
      have R10 := Aside0.mk (Kd.R_set R10.out P3.out (by decide) 0 (.int .i64 y))
      have I := Aside0.mk (I.out.set P3.out (by decide) (by have := ZZ.out; omega) 0 (.int .i64 y))
      have P3 := Aside0.mk (blk_put (cs' := #[.int .i64 y, .int .i64 n1, .int .i64 n2, .int .i64 n3, .int .i64 n4, .int .i64 n5, .bool yes, .slice A7 ls.length c7, .slice A8 lp.length c8, .int .i64 n9, .slice A10 lv.length c10, .int .i64 m0, .int .i64 m1, .int .i64 m2, .string tx, .int .i64 m4, .int .i64 m5]) P3.out 0 (.int .i64 y) rfl)
      have ZZ := Aside0.mk (And.intro ZZ.out (show W72.heap.size ≤ (W72.setCell ⟨gx, 0, none⟩ (.int .i64 y)).heap.size by simp))
      go_wp2_with (fail)
      clear hc0 hcf0 hc1 hcf1 hc2 hcf2 hc3 hcf3 hc4 hcf4 hc5 hcf5 hc6 hcf6 hc7 hcf7 hc8 hcf8 hc9 hcf9 hc10 hcf10 hc11 hcf11 hc12 hcf12 hc13 hcf13 hc14 hcf14 hc15 hcf15 hc16 hcf16 hl_ p_ q_ p1_ q1_ hy
      generalize W72.setCell ⟨gx, 0, none⟩ (.int .i64 y) = W73 at P2 P3 PL R7 R8 R10 I ZZ ⊢
      go_meet
      case rel => exact ⟨⟨I.out.more (by omega)⟩, P2, ⟨⟨y, n1, n2, n3, n4, n5, yes, A7, c7, A8, c8, n9, A10, c10, m0, m1, m2, tx, m4, m5, ls, lp, lv, P3.out, R7.out, R8.out, R10.out, HL.out⟩⟩⟩
     have c0f : (t == 0) = false := beq_eq_false_iff_ne.mpr c0_
     clear c0_
     by_cases c1_ : t = 1
     ·have c1t : (t == 1) = true := beq_iff_eq.mpr c1_
      clear c1_
      have hb := below_alloc (Below.refl W70.heap.size W70) (.cells #[.int .i64 (-1), .int .i64 3, .int .i64 8, .int .i64 99, .int .i64 103] 3 (0, 0))
      have ZZ := Aside0.mk (And.intro ZZ.out ((hb).size))
      have P2 := kb P2 (hb)
      have P3 := kb P3 (hb)
      have R7 := Aside0.mk (Kd.R_below R7.out (hb))
      have R8 := Aside0.mk (Kd.R_below R8.out (hb))
      have R10 := Aside0.mk (Kd.R_below R10.out (hb))
      have I := Aside0.mk (I.out.below (hb))
      clear hb
      have PL := Aside0.mk (blk_new W70 (.cells #[.int .i64 (-1), .int .i64 3, .int .i64 8, .int .i64 99, .int .i64 103] 3 (0, 0)))
      have ZZ := Aside0.mk (And.intro ZZ.out (blk_lt PL.out))
      go_wp2_with (fail)
      generalize W70.alloc (.cells #[.int .i64 (-1), .int .i64 3, .int .i64 8, .int .i64 99, .int .i64 103] 3 (0, 0)) = W74 at ZZ P2 P3 PL R7 R8 R10 I ⊢
      obtain ⟨bL, hq_⟩ : ∃ bL, bL = W70.heap.size := ⟨_, rfl⟩
      rw [← hq_] at PL ZZ ⊢
      have ZZ := Aside0.mk (And.intro ZZ.out (hq_))
      clear hq_
      refine (I.out.pick 5 (by have := HM.out; omega) (by decide) (by decide)).mono ?_
      rintro e W75 ⟨u, ht0_, ht1_, rfl, hi, hk⟩
      have Tu := Aside0.mk (And.intro ht0_ ht1_)
      clear ht0_ ht1_
      have ZZ := Aside0.mk (And.intro ZZ.out (hk.1))
      have P2 := Aside0.mk (I.out.blk hk P2.out (by decide))
      have P3 := Aside0.mk (I.out.blk hk P3.out (by decide))
      have PL := Aside0.mk (I.out.blk hk PL.out (by decide))
      have R7 := Aside0.mk (I.out.rows hk R7.out (by decide))
      have R8 := Aside0.mk (I.out.rows hk R8.out (by decide))
      have R10 := Aside0.mk (I.out.rows hk R10.out (by decide))
      have I := Aside0.mk hi
      clear hi hk
      obtain ⟨y, hy⟩ : ∃ y : Int, (#[.int .i64 (-1), .int .i64 3, .int .i64 8, .int .i64 99, .int .i64 103] : Array Value)[u.toNat]? = some (.int .i64 y) := ints_at [-1, 3, 8, 99, 103] u Tu.out.1 Tu.out.2
      have hl_ : W75.cell? ⟨bL, u.toNat, none⟩ = some (.int .i64 y) := (blk_cell PL.out u.toNat).trans hy
      have p_ := eq_true Tu.out.1
      have q_ := eq_true Tu.out.2
      have p1_ := Tu.out.1
      have q1_ := Tu.out.2
      have hc0 := (blk_cell P3.out 0).trans (show _ = some (.int .i64 n0) from rfl)
      have hcf0 := blk_frozen P3.out 0
      have hc1 := (blk_cell P3.out 1).trans (show _ = some (.int .i64 n1) from rfl)
      have hcf1 := blk_frozen P3.out 1
      have hc2 := (blk_cell P3.out 2).trans (show _ = some (.int .i64 n2) from rfl)
      have hcf2 := blk_frozen P3.out 2
      have hc3 := (blk_cell P3.out 3).trans (show _ = some (.int .i64 n3) from rfl)
      have hcf3 := blk_frozen P3.out 3
      have hc4 := (blk_cell P3.out 4).trans (show _ = some (.int .i64 n4) from rfl)
      have hcf4 := blk_frozen P3.out 4
      have hc5 := (blk_cell P3.out 5).trans (show _ = some (.int .i64 n5) from rfl)
      have hcf5 := blk_frozen P3.out 5
      have hc6 := (blk_cell P3.out 6).trans (show _ = some (.bool yes) from rfl)
      have hcf6 := blk_frozen P3.out 6
      have hc7 := (blk_cell P3.out 7).trans (show _ = some (.slice A7 ls.length c7) from rfl)
      have hcf7 := blk_frozen P3.out 7
      have hc8 := (blk_cell P3.out 8).trans (show _ = some (.slice A8 lp.length c8) from rfl)
      have hcf8 := blk_frozen P3.out 8
      have hc9 := (blk_cell P3.out 9).trans (show _ = some (.int .i64 n9) from rfl)
      have hcf9 := blk_frozen P3.out 9
      have hc10 := (blk_cell P3.out 10).trans (show _ = some (.slice A10 lv.length c10) from rfl)
      have hcf10 := blk_frozen P3.out 10
      have hc11 := (blk_cell P3.out 11).trans (show _ = some (.int .i64 m0) from rfl)
      have hcf11 := blk_frozen P3.out 11
      have hc12 := (blk_cell P3.out 12).trans (show _ = some (.int .i64 m1) from rfl)
      have hcf12 := blk_frozen P3.out 12
      have hc13 := (blk_cell P3.out 13).trans (show _ = some (.int .i64 m2) from rfl)
      have hcf13 := blk_frozen P3.out 13
      have hc14 := (blk_cell P3.out 14).trans (show _ = some (.string tx) from rfl)
      have hcf14 := blk_frozen P3.out 14
      have hc15 := (blk_cell P3.out 15).trans (show _ = some (.int .i64 m4) from rfl)
      have hcf15 := blk_frozen P3.out 15
      have hc16 := (blk_cell P3.out 16).trans (show _ = some (.int .i64 m5) from rfl)
      have hcf16 := blk_frozen P3.out 16
      have P2 := Aside0.mk (blk_far (p := ⟨gx, 1, none⟩) P2.out (show w.heap.size ≠ gx by have := ZZ.out; omega) (.int .i64 y))
      have PL := Aside0.mk (blk_far (p := ⟨gx, 1, none⟩) PL.out (show bL ≠ gx by have := ZZ.out; omega) (.int .i64 y))
      have R7 := Aside0.mk (Kd.R_set R7.out P3.out (by decide) 1 (.int .i64 y))
      have R8 := Aside0.mk (Kd.R_set R8.out P3.out (by decide) 1 (.int .i64 y))
      have R10 := Aside0.mk (Kd.R_set R10.out P3.out (by decide) 1 (.int .i64 y))
      have I := Aside0.mk (I.out.set P3.out (by decide) (by have := ZZ.out; omega) 1 (.int .i64 y))
      have P3 := Aside0.mk (blk_put (cs' := #[.int .i64 n0, .int .i64 y, .int .i64 n2, .int .i64 n3, .int .i64 n4, .int .i64 n5, .bool yes, .slice A7 ls.length c7, .slice A8 lp.length c8, .int .i64 n9, .slice A10 lv.length c10, .int .i64 m0, .int .i64 m1, .int .i64 m2, .string tx, .int .i64 m4, .int .i64 m5]) P3.out 1 (.int .i64 y) rfl)
      have ZZ := Aside0.mk (And.intro ZZ.out (show W75.heap.size ≤ (W75.setCell ⟨gx, 1, none⟩ (.int .i64 y)).heap.size by simp))
      go_wp2_with (fail)
      clear hc0 hcf0 hc1 hcf1 hc2 hcf2 hc3 hcf3 hc4 hcf4 hc5 hcf5 hc6 hcf6 hc7 hcf7 hc8 hcf8 hc9 hcf9 hc10 hcf10 hc11 hcf11 hc12 hcf12 hc13 hcf13 hc14 hcf14 hc15 hcf15 hc16 hcf16 hl_ p_ q_ p1_ q1_ hy
      generalize W75.setCell ⟨gx, 1, none⟩ (.int .i64 y) = W76 at P2 P3 PL R7 R8 R10 I ZZ ⊢
      go_meet
      case rel => exact ⟨⟨I.out.more (by omega)⟩, P2, ⟨⟨n0, y, n2, n3, n4, n5, yes, A7, c7, A8, c8, n9, A10, c10, m0, m1, m2, tx, m4, m5, ls, lp, lv, P3.out, R7.out, R8.out, R10.out, HL.out⟩⟩⟩
     have c1f : (t == 1) = false := beq_eq_false_iff_ne.mpr c1_
     clear c1_
     by_cases c2_ : t = 2
     ·have c2t : (t == 2) = true := beq_iff_eq.mpr c2_
      clear c2_
      have hb := below_alloc (Below.refl W70.heap.size W70) (.cells #[.int .i64 (-1), .int .i64 9999, .int .i64 10000] 3 (0, 0))
      have ZZ := Aside0.mk (And.intro ZZ.out ((hb).size))
      have P2 := kb P2 (hb)
      have P3 := kb P3 (hb)
      have R7 := Aside0.mk (Kd.R_below R7.out (hb))
      have R8 := Aside0.mk (Kd.R_below R8.out (hb))
      have R10 := Aside0.mk (Kd.R_below R10.out (hb))
      have I := Aside0.mk (I.out.below (hb))
      clear hb
      have PL := Aside0.mk (blk_new W70 (.cells #[.int .i64 (-1), .int .i64 9999, .int .i64 10000] 3 (0, 0)))
      have ZZ := Aside0.mk (And.intro ZZ.out (blk_lt PL.out))
      go_wp2_with (fail)
      generalize W70.alloc (.cells #[.int .i64 (-1), .int .i64 9999, .int .i64 10000] 3 (0, 0)) = W77 at ZZ P2 P3 PL R7 R8 R10 I ⊢
      obtain ⟨bL, hq_⟩ : ∃ bL, bL = W70.heap.size := ⟨_, rfl⟩
      rw [← hq_] at PL ZZ ⊢
      have ZZ := Aside0.mk (And.intro ZZ.out (hq_))
      clear hq_
      refine (I.out.pick 3 (by have := HM.out; omega) (by decide) (by decide)).mono ?_
      rintro e W78 ⟨u, ht0_, ht1_, rfl, hi, hk⟩
      have Tu := Aside0.mk (And.intro ht0_ ht1_)
      clear ht0_ ht1_
      have ZZ := Aside0.mk (And.intro ZZ.out (hk.1))
      have P2 := Aside0.mk (I.out.blk hk P2.out (by decide))
      have P3 := Aside0.mk (I.out.blk hk P3.out (by decide))
      have PL := Aside0.mk (I.out.blk hk PL.out (by decide))
      have R7 := Aside0.mk (I.out.rows hk R7.out (by decide))
      have R8 := Aside0.mk (I.out.rows hk R8.out (by decide))
      have R10 := Aside0.mk (I.out.rows hk R10.out (by decide))
      have I := Aside0.mk hi
      clear hi hk
      obtain ⟨y, hy⟩ : ∃ y : Int, (#[.int .i64 (-1), .int .i64 9999, .int .i64 10000] : Array Value)[u.toNat]? = some (.int .i64 y) := ints_at [-1, 9999, 10000] u Tu.out.1 Tu.out.2
      have hl_ : W78.cell? ⟨bL, u.toNat, none⟩ = some (.int .i64 y) := (blk_cell PL.out u.toNat).trans hy
      have p_ := eq_true Tu.out.1
      have q_ := eq_true Tu.out.2
      have p1_ := Tu.out.1
      have q1_ := Tu.out.2
      have hc0 := (blk_cell P3.out 0).trans (show _ = some (.int .i64 n0) from rfl)
      have hcf0 := blk_frozen P3.out 0
      have hc1 := (blk_cell P3.out 1).trans (show _ = some (.int .i64 n1) from rfl)
      have hcf1 := blk_frozen P3.out 1
      have hc2 := (blk_cell P3.out 2).trans (show _ = some (.int .i64 n2) from rfl)
      have hcf2 := blk_frozen P3.out 2
      have hc3 := (blk_cell P3.out 3).trans (show _ = some (.int .i64 n3) from rfl)
      have hcf3 := blk_frozen P3.out 3
      have hc4 := (blk_cell P3.out 4).trans (show _ = some (.int .i64 n4) from rfl)
      have hcf4 := blk_frozen P3.out 4
      have hc5 := (blk_cell P3.out 5).trans (show _ = some (.int .i64 n5) from rfl)
      have hcf5 := blk_frozen P3.out 5
      have hc6 := (blk_cell P3.out 6).trans (show _ = some (.bool yes) from rfl)
      have hcf6 := blk_frozen P3.out 6
      have hc7 := (blk_cell P3.out 7).trans (show _ = some (.slice A7 ls.length c7) from rfl)
      have hcf7 := blk_frozen P3.out 7
      have hc8 := (blk_cell P3.out 8).trans (show _ = some (.slice A8 lp.length c8) from rfl)
      have hcf8 := blk_frozen P3.out 8
      have hc9 := (blk_cell P3.out 9).trans (show _ = some (.int .i64 n9) from rfl)
      have hcf9 := blk_frozen P3.out 9
      have hc10 := (blk_cell P3.out 10).trans (show _ = some (.slice A10 lv.length c10) from rfl)
      have hcf10 := blk_frozen P3.out 10
      have hc11 := (blk_cell P3.out 11).trans (show _ = some (.int .i64 m0) from rfl)
      have hcf11 := blk_frozen P3.out 11
      have hc12 := (blk_cell P3.out 12).trans (show _ = some (.int .i64 m1) from rfl)
      have hcf12 := blk_frozen P3.out 12
      have hc13 := (blk_cell P3.out 13).trans (show _ = some (.int .i64 m2) from rfl)
      have hcf13 := blk_frozen P3.out 13
      have hc14 := (blk_cell P3.out 14).trans (show _ = some (.string tx) from rfl)
      have hcf14 := blk_frozen P3.out 14
      have hc15 := (blk_cell P3.out 15).trans (show _ = some (.int .i64 m4) from rfl)
      have hcf15 := blk_frozen P3.out 15
      have hc16 := (blk_cell P3.out 16).trans (show _ = some (.int .i64 m5) from rfl)
      have hcf16 := blk_frozen P3.out 16
      have P2 := Aside0.mk (blk_far (p := ⟨gx, 3, none⟩) P2.out (show w.heap.size ≠ gx by have := ZZ.out; omega) (.int .i64 y))
      have PL := Aside0.mk (blk_far (p := ⟨gx, 3, none⟩) PL.out (show bL ≠ gx by have := ZZ.out; omega) (.int .i64 y))
      have R7 := Aside0.mk (Kd.R_set R7.out P3.out (by decide) 3 (.int .i64 y))
      have R8 := Aside0.mk (Kd.R_set R8.out P3.out (by decide) 3 (.int .i64 y))
      have R10 := Aside0.mk (Kd.R_set R10.out P3.out (by decide) 3 (.int .i64 y))
      have I := Aside0.mk (I.out.set P3.out (by decide) (by have := ZZ.out; omega) 3 (.int .i64 y))
      have P3 := Aside0.mk (blk_put (cs' := #[.int .i64 n0, .int .i64 n1, .int .i64 n2, .int .i64 y, .int .i64 n4, .int .i64 n5, .bool yes, .slice A7 ls.length c7, .slice A8 lp.length c8, .int .i64 n9, .slice A10 lv.length c10, .int .i64 m0, .int .i64 m1, .int .i64 m2, .string tx, .int .i64 m4, .int .i64 m5]) P3.out 3 (.int .i64 y) rfl)
      have ZZ := Aside0.mk (And.intro ZZ.out (show W78.heap.size ≤ (W78.setCell ⟨gx, 3, none⟩ (.int .i64 y)).heap.size by simp))
      go_wp2_with (fail)
      clear hc0 hcf0 hc1 hcf1 hc2 hcf2 hc3 hcf3 hc4 hcf4 hc5 hcf5 hc6 hcf6 hc7 hcf7 hc8 hcf8 hc9 hcf9 hc10 hcf10 hc11 hcf11 hc12 hcf12 hc13 hcf13 hc14 hcf14 hc15 hcf15 hc16 hcf16 hl_ p_ q_ p1_ q1_ hy
      generalize W78.setCell ⟨gx, 3, none⟩ (.int .i64 y) = W79 at P2 P3 PL R7 R8 R10 I ZZ ⊢
      go_meet
      case rel => exact ⟨⟨I.out.more (by omega)⟩, P2, ⟨⟨n0, n1, n2, y, n4, n5, yes, A7, c7, A8, c8, n9, A10, c10, m0, m1, m2, tx, m4, m5, ls, lp, lv, P3.out, R7.out, R8.out, R10.out, HL.out⟩⟩⟩
     have c2f : (t == 2) = false := beq_eq_false_iff_ne.mpr c2_
     clear c2_
     by_cases c3_ : t = 3
     ·have c3t : (t == 3) = true := beq_iff_eq.mpr c3_
      clear c3_
      go_wp2_with (fail)
      refine (I.out.pick 2 (by have := HM.out; omega) (by decide) (by decide)).mono ?_
      rintro e W80 ⟨u, ht0_, ht1_, rfl, hi, hk⟩
      have Tu := Aside0.mk (And.intro ht0_ ht1_)
      clear ht0_ ht1_
      have ZZ := Aside0.mk (And.intro ZZ.out (hk.1))
      have P2 := Aside0.mk (I.out.blk hk P2.out (by decide))
      have P3 := Aside0.mk (I.out.blk hk P3.out (by decide))
      have R7 := Aside0.mk (I.out.rows hk R7.out (by decide))
      have R8 := Aside0.mk (I.out.rows hk R8.out (by decide))
      have R10 := Aside0.mk (I.out.rows hk R10.out (by decide))
      have I := Aside0.mk hi
      clear hi hk
      obtain ⟨n, hn_, hn0, hn1⟩ : ∃ n : Int, wrap64 (6 + u) = n ∧ 0 ≤ n ∧ n ≤ 64 := ⟨6 + u, by unfold wrap64; have := Tu.out; omega, by have := Tu.out; omega, by have := Tu.out; omega⟩
      go_wp2_with (((with_reducible refine gate_dst (N := 89) rfl ?_); simp only [hn_]; refine Kd.R_make (Kd.int .i64) _ 3 rfl (N := 89) rfl 22 _ _ rfl n rfl rfl Try.underlying22 (.int .i64 0) 8 info3 rfl (by decide) (by omega) 0 (ok := fun _ => True) (okp := fun _ => True) (show Kd.M (Kd.int .i64) _ _ _ 0 [.int .i64 0] from rfl) (fun _ hk => hk) trivial hn0 (by omega) (Below.refl _ _) (Nat.le_refl _) ?_; intro va W81 qa hb hg_ hn_'; clear hg_ hn_'; obtain ⟨z, hz_⟩ : ∃ z, z = List.replicate n.toNat (0 : Int) := ⟨_, rfl⟩; rw [← hz_] at qa; have HZ := Aside0.mk (show z.length ≤ 64 by rw [hz_]; exact make_len (by omega)); clear hz_; have hsz_ := I.out.kept.1; have P2 := kb P2 hb; have P3 := kb P3 hb; have R7 := Aside0.mk (Kd.R_below R7.out hb); have R8 := Aside0.mk (Kd.R_below R8.out hb); have I := Aside0.mk (I.out.below hb); have R10 := Aside0.mk (Kd.R_lower qa hsz_); have ZZ := Aside0.mk (And.intro ZZ.out hb.size); clear hb hsz_ qa; obtain ⟨AL, cL, e0⟩ := Kd.R_slice R10.out; subst e0; have hc_ := (blk_cell P3.out 10).trans (show _ = some (.slice A10 lv.length c10) from rfl); have hf_ := blk_frozen P3.out 10))
      have P2 := Aside0.mk (blk_far (p := ⟨gx, 10, none⟩) P2.out (show w.heap.size ≠ gx by have := ZZ.out; omega) (.slice AL z.length cL))
      have R7 := Aside0.mk (Kd.R_set R7.out P3.out (by decide) 10 (.slice AL z.length cL))
      have R8 := Aside0.mk (Kd.R_set R8.out P3.out (by decide) 10 (.slice AL z.length cL))
      have R10 := Aside0.mk (Kd.R_set R10.out P3.out (by decide) 10 (.slice AL z.length cL))
      have I := Aside0.mk (I.out.set P3.out (by decide) (by have := ZZ.out; omega) 10 (.slice AL z.length cL))
      have P3 := Aside0.mk (blk_put (cs' := #[.int .i64 n0, .int .i64 n1, .int .i64 n2, .int .i64 n3, .int .i64 n4, .int .i64 n5, .bool yes, .slice A7 ls.length c7, .slice A8 lp.length c8, .int .i64 n9, .slice AL z.length cL, .int .i64 m0, .int .i64 m1, .int .i64 m2, .string tx, .int .i64 m4, .int .i64 m5]) P3.out 10 (.slice AL z.length cL) rfl)
      have ZZ := Aside0.mk (And.intro ZZ.out (show W81.heap.size ≤ (W81.setCell ⟨gx, 10, none⟩ (.slice AL z.length cL)).heap.size by simp))
      clear hc_ hf_ hn_
      go_meet
      case rel => exact ⟨⟨I.out.more (by omega)⟩, P2, ⟨⟨n0, n1, n2, n3, n4, n5, yes, A7, c7, A8, c8, n9, AL, cL, m0, m1, m2, tx, m4, m5, ls, lp, z, P3.out, R7.out, R8.out, R10.out, ⟨HL.out.1, HL.out.2.1, HZ.out⟩⟩⟩⟩
     have c3f : (t == 3) = false := beq_eq_false_iff_ne.mpr c3_
     clear c3_
     by_cases c4_ : t = 4
     ·have c4t : (t == 4) = true := beq_iff_eq.mpr c4_
      clear c4_
      go_wp2_with (fail)
      refine (I.out.pick 2 (by have := HM.out; omega) (by decide) (by decide)).mono ?_
      rintro e W83 ⟨u, ht0_, ht1_, rfl, hi, hk⟩
      have Tu := Aside0.mk (And.intro ht0_ ht1_)
      clear ht0_ ht1_
      have ZZ := Aside0.mk (And.intro ZZ.out (hk.1))
      have P2 := Aside0.mk (I.out.blk hk P2.out (by decide))
      have P3 := Aside0.mk (I.out.blk hk P3.out (by decide))
      have R7 := Aside0.mk (I.out.rows hk R7.out (by decide))
      have R8 := Aside0.mk (I.out.rows hk R8.out (by decide))
      have R10 := Aside0.mk (I.out.rows hk R10.out (by decide))
      have I := Aside0.mk hi
      clear hi hk
      obtain ⟨n, hn_, hn0, hn1⟩ : ∃ n : Int, wrap64 (80 + u) = n ∧ 0 ≤ n ∧ n < 128 := ⟨80 + u, by unfold wrap64; have := Tu.out; omega, by have := Tu.out; omega, by have := Tu.out; omega⟩
      go_wp2_with (fail)
      rw [hn_]
      refine (manyW n hn0 hn1 W83).mono ?_
      rintro e W84 ⟨r, rfl, hr, hb⟩
      clear hr hn0 hn1 hn_
      have ZZ := Aside0.mk (And.intro ZZ.out ((hb).size))
      have P2 := kb P2 (hb)
      have P3 := kb P3 (hb)
      have R7 := Aside0.mk (Kd.R_below R7.out (hb))
      have R8 := Aside0.mk (Kd.R_below R8.out (hb))
      have R10 := Aside0.mk (Kd.R_below R10.out (hb))
      have I := Aside0.mk (I.out.below (hb))
      clear hb
      have hc0 := (blk_cell P3.out 0).trans (show _ = some (.int .i64 n0) from rfl)
      have hcf0 := blk_frozen P3.out 0
      have hc1 := (blk_cell P3.out 1).trans (show _ = some (.int .i64 n1) from rfl)
      have hcf1 := blk_frozen P3.out 1
      have hc2 := (blk_cell P3.out 2).trans (show _ = some (.int .i64 n2) from rfl)
      have hcf2 := blk_frozen P3.out 2
      have hc3 := (blk_cell P3.out 3).trans (show _ = some (.int .i64 n3) from rfl)
      have hcf3 := blk_frozen P3.out 3
      have hc4 := (blk_cell P3.out 4).trans (show _ = some (.int .i64 n4) from rfl)
      have hcf4 := blk_frozen P3.out 4
      have hc5 := (blk_cell P3.out 5).trans (show _ = some (.int .i64 n5) from rfl)
      have hcf5 := blk_frozen P3.out 5
      have hc6 := (blk_cell P3.out 6).trans (show _ = some (.bool yes) from rfl)
      have hcf6 := blk_frozen P3.out 6
      have hc7 := (blk_cell P3.out 7).trans (show _ = some (.slice A7 ls.length c7) from rfl)
      have hcf7 := blk_frozen P3.out 7
      have hc8 := (blk_cell P3.out 8).trans (show _ = some (.slice A8 lp.length c8) from rfl)
      have hcf8 := blk_frozen P3.out 8
      have hc9 := (blk_cell P3.out 9).trans (show _ = some (.int .i64 n9) from rfl)
      have hcf9 := blk_frozen P3.out 9
      have hc10 := (blk_cell P3.out 10).trans (show _ = some (.slice A10 lv.length c10) from rfl)
      have hcf10 := blk_frozen P3.out 10
      have hc11 := (blk_cell P3.out 11).trans (show _ = some (.int .i64 m0) from rfl)
      have hcf11 := blk_frozen P3.out 11
      have hc12 := (blk_cell P3.out 12).trans (show _ = some (.int .i64 m1) from rfl)
      have hcf12 := blk_frozen P3.out 12
      have hc13 := (blk_cell P3.out 13).trans (show _ = some (.int .i64 m2) from rfl)
      have hcf13 := blk_frozen P3.out 13
      have hc14 := (blk_cell P3.out 14).trans (show _ = some (.string tx) from rfl)
      have hcf14 := blk_frozen P3.out 14
      have hc15 := (blk_cell P3.out 15).trans (show _ = some (.int .i64 m4) from rfl)
      have hcf15 := blk_frozen P3.out 15
      have hc16 := (blk_cell P3.out 16).trans (show _ = some (.int .i64 m5) from rfl)
      have hcf16 := blk_frozen P3.out 16
      have P2 := Aside0.mk (blk_far (p := ⟨gx, 14, none⟩) P2.out (show w.heap.size ≠ gx by have := ZZ.out; omega) (.string r))
      have R7 := Aside0.mk (Kd.R_set R7.out P3.out (by decide) 14 (.string r))
      have R8 := Aside0.mk (Kd.R_set R8.out P3.out (by decide) 14 (.string r))
      have R10 := Aside0.mk (Kd.R_set R10.out P3.out (by decide) 14 (.string r))
      have I := Aside0.mk (I.out.set P3.out (by decide) (by have := ZZ.out; omega) 14 (.string r))
      have P3 := Aside0.mk (blk_put (cs' := #[.int .i64 n0, .int .i64 n1, .int .i64 n2, .int .i64 n3, .int .i64 n4, .int .i64 n5, .bool yes, .slice A7 ls.length c7, .slice A8 lp.length c8, .int .i64 n9, .slice A10 lv.length c10, .int .i64 m0, .int .i64 m1, .int .i64 m2, .string r, .int .i64 m4, .int .i64 m5]) P3.out 14 (.string r) rfl)
      have ZZ := Aside0.mk (And.intro ZZ.out (show W84.heap.size ≤ (W84.setCell ⟨gx, 14, none⟩ (.string r)).heap.size by simp))
      go_wp2_with (fail)
      clear hc0 hcf0 hc1 hcf1 hc2 hcf2 hc3 hcf3 hc4 hcf4 hc5 hcf5 hc6 hcf6 hc7 hcf7 hc8 hcf8 hc9 hcf9 hc10 hcf10 hc11 hcf11 hc12 hcf12 hc13 hcf13 hc14 hcf14 hc15 hcf15 hc16 hcf16
      go_meet
      case rel => exact ⟨⟨I.out.more (by omega)⟩, P2, ⟨⟨n0, n1, n2, n3, n4, n5, yes, A7, c7, A8, c8, n9, A10, c10, m0, m1, m2, r, m4, m5, ls, lp, lv, P3.out, R7.out, R8.out, R10.out, HL.out⟩⟩⟩
     have c4f : (t == 4) = false := beq_eq_false_iff_ne.mpr c4_
     clear c4_
     go_wp2_with (fail)
     go_meet
     case rel => exact ⟨⟨I.out.more (by omega)⟩, P2, ⟨⟨n0, n1, n2, n3, n4, n5, yes, A7, c7, A8, c8, n9, A10, c10, m0, m1, m2, tx, m4, m5, ls, lp, lv, P3.out, R7.out, R8.out, R10.out, HL.out⟩⟩⟩
    case rest =>
     repeat clear P2
     repeat clear I
     repeat clear WA
     obtain ⟨I, P2, WA⟩ := hcut
     obtain ⟨W86, e_⟩ : ∃ X, X = wc := ⟨_, rfl⟩
     subst e_
     apply hK
     clear hK K
     obtain ⟨n0, n1, n2, n3, n4, n5, yes, A7, c7, A8, c8, n9, A10, c10, m0, m1, m2, tx, m4, m5, ls, lp, lv, p3, r7, r8, r10, hl_⟩ := WA.out
     have P3 := Aside0.mk p3
     have R7 := Aside0.mk r7
     have R8 := Aside0.mk r8
     have R10 := Aside0.mk r10
     have HL := Aside0.mk hl_
     clear WA p3 r7 r8 r10 hl_
     have ZZ := Aside0.mk (And.intro GX.out (And.intro I.out.kept.1 (blk_lt P3.out)))
     go_wp2_with (first | ((with_reducible refine gate_dst (N := 99) rfl ?_); refine wpList_load_row rfl 33 (.tmp 3) rfl gx rfl 33 #[.int .i64 n0, .int .i64 n1, .int .i64 n2, .int .i64 n3, .int .i64 n4, .int .i64 n5, .bool yes, .slice A7 ls.length c7, .slice A8 lp.length c8, .int .i64 n9, .slice A10 lv.length c10, .int .i64 m0, .int .i64 m1, .int .i64 m2, .string tx, .int .i64 m4, .int .i64 m5] (0, 0) _ P3.out hu33 rfl (by kernel_rfl) ?_) | ((with_reducible refine gate_store (t := 33) (p := 2) rfl ?_); refine wpList_store_row rfl 33 (.tmp 2) (.tmp 99) rfl w.heap.size #[.int .i64 n0, .int .i64 n1, .int .i64 n2, .int .i64 n3, .int .i64 n4, .int .i64 n5, .bool yes, .slice A7 ls.length c7, .slice A8 lp.length c8, .int .i64 n9, .slice A10 lv.length c10, .int .i64 m0, .int .i64 m1, .int .i64 m2, .string tx, .int .i64 m4, .int .i64 m5] rfl rfl 33 #[.int .i64 0, .int .i64 0, .int .i64 0, .int .i64 0, .int .i64 0, .int .i64 0, .bool false, .slice none 0 0, .slice none 0 0, .int .i64 0, .slice none 0 0, .int .i64 0, .int .i64 0, .int .i64 0, .string ⟨#[]⟩, .int .i64 0, .int .i64 0] P2.out (by kernel_rfl) rfl (by simp [Value.oneCell']) ?_; refine Aside0.out ?_))
     have Q7 := Aside0.mk (rows_setRow R7.out P2.out (by decide) #[.int .i64 n0, .int .i64 n1, .int .i64 n2, .int .i64 n3, .int .i64 n4, .int .i64 n5, .bool yes, .slice A7 ls.length c7, .slice A8 lp.length c8, .int .i64 n9, .slice A10 lv.length c10, .int .i64 m0, .int .i64 m1, .int .i64 m2, .string tx, .int .i64 m4, .int .i64 m5])
     have Q8 := Aside0.mk (rows_setRow R8.out P2.out (by decide) #[.int .i64 n0, .int .i64 n1, .int .i64 n2, .int .i64 n3, .int .i64 n4, .int .i64 n5, .bool yes, .slice A7 ls.length c7, .slice A8 lp.length c8, .int .i64 n9, .slice A10 lv.length c10, .int .i64 m0, .int .i64 m1, .int .i64 m2, .string tx, .int .i64 m4, .int .i64 m5])
     have Q10 := Aside0.mk (rows_setRow R10.out P2.out (by decide) #[.int .i64 n0, .int .i64 n1, .int .i64 n2, .int .i64 n3, .int .i64 n4, .int .i64 n5, .bool yes, .slice A7 ls.length c7, .slice A8 lp.length c8, .int .i64 n9, .slice A10 lv.length c10, .int .i64 m0, .int .i64 m1, .int .i64 m2, .string tx, .int .i64 m4, .int .i64 m5])
     have I := Aside0.mk (I.out.row P2.out (by decide) (Nat.le_refl _) #[.int .i64 n0, .int .i64 n1, .int .i64 n2, .int .i64 n3, .int .i64 n4, .int .i64 n5, .bool yes, .slice A7 ls.length c7, .slice A8 lp.length c8, .int .i64 n9, .slice A10 lv.length c10, .int .i64 m0, .int .i64 m1, .int .i64 m2, .string tx, .int .i64 m4, .int .i64 m5])
     have P2 := Aside0.mk (setRow_heap _ _ _ #[.int .i64 n0, .int .i64 n1, .int .i64 n2, .int .i64 n3, .int .i64 n4, .int .i64 n5, .bool yes, .slice A7 ls.length c7, .slice A8 lp.length c8, .int .i64 n9, .slice A10 lv.length c10, .int .i64 m0, .int .i64 m1, .int .i64 m2, .string tx, .int .i64 m4, .int .i64 m5] _ _ P2.out)
     refine Aside0.mk ?_
     iterate 12 (try go_step)
     refine bodyPost_ret (results_cell_row rfl _ _ w.heap.size 33 #[.int .i64 n0, .int .i64 n1, .int .i64 n2, .int .i64 n3, .int .i64 n4, .int .i64 n5, .bool yes, .slice A7 ls.length c7, .slice A8 lp.length c8, .int .i64 n9, .slice A10 lv.length c10, .int .i64 m0, .int .i64 m1, .int .i64 m2, .string tx, .int .i64 m4, .int .i64 m5] (0, 0) _ rfl P2.out hu33 rfl (by kernel_rfl)) rfl ?_
     exact ⟨n0, n1, n2, n3, n4, n5, yes, A7, c7, A8, c8, n9, A10, c10, m0, m1, m2, tx, m4, m5, ls, lp, lv, rfl, Q7.out, Q8.out, Q10.out, HL.out, I.out.more (by omega)⟩
end Go.Proofs.Ytbjdnfgalopfiaa.PD
