/- impl.WordPack. -/
import Derived.Test.YtbjdnfgalopfiaaE2
import Derived.Test.YtbjdnfgalopfiaaWordE
import Derived.Test.YtbjdnfgalopfiaaPEx34
import Derived.Deep.Cut
namespace Go.Proofs.Ytbjdnfgalopfiaa.PE
open Go.RowKit Go.Proofs.YtbjdnfgalopfiaaW.PrintWords Go.Proofs.YtbjdnfgalopfiaaW.PrintLast Go.Proofs.YtbjdnfgalopfiaaW.PrintMore Go.Proofs.Ytbjdnfgalopfiaa.PB
attribute [local go_sem] max2_int min2_int max_two min_two max_three min_three max_four min_four
set_option linter.unusedVariables false
set_option linter.unusedSimpArgs false
set_option maxHeartbeats 8000000 in
set_option maxRecDepth 100000 in
theorem ipackW (n0 n1 n2 n3 n4 n5 : Int) (yes : Bool) (A7 : Option Addr) (c7 : Nat) (ls : List Int) (A8 : Option Addr) (c8 : Nat) (lp : List S68) (n9 : Int) (A10 : Option Addr) (c10 : Nat) (lv : List Int) (m0 m1 m2 : Int) (tx : ByteArray) (m4 m5 : Int) (w : World) (hr7 : Kd.C (Kd.int .i64) w A7 ls.length ls) (hc7 : ls.length ≤ c7) (hr8 : Kd.C k68 w A8 lp.length lp) (hc8 : lp.length ≤ c8) (hr10 : Kd.C (Kd.int .i64) w A10 lv.length lv) (hc10 : lv.length ≤ c10) (hl : ls.length ≤ 1048576 ∧ lp.length ≤ 1048576 ∧ lv.length ≤ 1048576) (b : Bool) (k : Nat) (out : List Int) (hk : impl_WordOk.f k n0 n1 n2 n3 n4 n5 yes ls lp n9 lv m0 m1 m2 tx m4 m5 = some b) (hb : b = true → okW n0 n1 n2 n3 n4 n5 ls lp n9 lv m0 m1 m2 tx m4 m5) (ho : out = (if b = true then packL n0 n1 n2 n3 n4 n5 yes ls lp n9 lv m0 m1 m2 tx m4 m5 else [])) :
    Calls Try.prog 13 #[.agg #[.int .i64 n0, .int .i64 n1, .int .i64 n2, .int .i64 n3, .int .i64 n4, .int .i64 n5, .bool yes, .slice A7 ls.length c7, .slice A8 lp.length c8, .int .i64 n9, .slice A10 lv.length c10, .int .i64 m0, .int .i64 m1, .int .i64 m2, .string tx, .int .i64 m4, .int .i64 m5]] w fun e w' => ∃ (A : Option Addr) (c : Nat), e = .returned (.slice A out.length c) ∧ Kd.R (Kd.int .u8) 5 w' w.heap.size (fun _ => True) (.slice A out.length c) out ∧ Below w.heap.size w w' := by
  have hu33 := Try.underlying33
  have hu31 := Try.underlying31
  have hu68 := Try.underlying68
  have hu69 := Try.underlying69
  have HR7 := Aside0.mk hr7
  have HC7 := Aside0.mk hc7
  clear hr7 hc7
  have HR8 := Aside0.mk hr8
  have HC8 := Aside0.mk hc8
  clear hr8 hc8
  have HR10 := Aside0.mk hr10
  have HC10 := Aside0.mk hc10
  clear hr10 hc10
  have HL := Aside0.mk hl
  have HE := Aside0.mk hk
  have HO := Aside0.mk hb
  have HOUT := Aside0.mk ho
  clear hl hk hb ho
  have HB := Aside0.mk (Below.refl w.heap.size w)
  have hb := below_alloc (Below.refl w.heap.size w) (.cells #[.int .i64 n0, .int .i64 n1, .int .i64 n2, .int .i64 n3, .int .i64 n4, .int .i64 n5, .bool yes, .slice A7 ls.length c7, .slice A8 lp.length c8, .int .i64 n9, .slice A10 lv.length c10, .int .i64 m0, .int .i64 m1, .int .i64 m2, .string tx, .int .i64 m4, .int .i64 m5] 33 (0, 0))
  have HB := Aside0.mk (below_step HB.out (hb))
  clear hb
  have P1 := Aside0.mk (blk_new w (.cells #[.int .i64 n0, .int .i64 n1, .int .i64 n2, .int .i64 n3, .int .i64 n4, .int .i64 n5, .bool yes, .slice A7 ls.length c7, .slice A8 lp.length c8, .int .i64 n9, .slice A10 lv.length c10, .int .i64 m0, .int .i64 m1, .int .i64 m2, .string tx, .int .i64 m4, .int .i64 m5] 33 (0, 0)))
  go_enter Try.func13, Try.ntmps13
  go_wp2_with (((with_reducible refine gate_dst (N := 8) rfl ?_); refine wpList_load_row rfl 33 (.tmp 1) rfl w.heap.size rfl 33 #[.int .i64 n0, .int .i64 n1, .int .i64 n2, .int .i64 n3, .int .i64 n4, .int .i64 n5, .bool yes, .slice A7 ls.length c7, .slice A8 lp.length c8, .int .i64 n9, .slice A10 lv.length c10, .int .i64 m0, .int .i64 m1, .int .i64 m2, .string tx, .int .i64 m4, .int .i64 m5] (0, 0) _ P1.out hu33 rfl (by kernel_rfl) ?_))
  generalize w.alloc (.cells #[.int .i64 n0, .int .i64 n1, .int .i64 n2, .int .i64 n3, .int .i64 n4, .int .i64 n5, .bool yes, .slice A7 ls.length c7, .slice A8 lp.length c8, .int .i64 n9, .slice A10 lv.length c10, .int .i64 m0, .int .i64 m1, .int .i64 m2, .string tx, .int .i64 m4, .int .i64 m5] 33 (0, 0)) = W1 at P1 HB ⊢
  obtain ⟨b1, hq_⟩ : ∃ b1, b1 = w.heap.size := ⟨_, rfl⟩
  rw [← hq_] at P1 ⊢
  clear hq_
  refine (impl_WordOk.calls k n0 n1 n2 n3 n4 n5 yes A7 c7 ls A8 c8 lp n9 A10 c10 lv m0 m1 m2 tx m4 m5 b W1 (Kd.C_below HR7.out HB.out) HC7.out (Kd.C_below HR8.out HB.out) HC8.out (Kd.C_below HR10.out HB.out) HC10.out HE.out).mono ?_
  rintro e W2 ⟨rfl, hb⟩
  have P1 := kb P1 (hb)
  have HB := Aside0.mk (below_step HB.out (hb))
  clear hb
  cases b with
  | false =>
    go_wp2_with (fail)
    go_ret
    obtain rfl : out = [] := HOUT.out
    exact ⟨none, 0, rfl, Kd.R_nil _ _ _ _ _, HB.out⟩
  | true =>
    obtain ⟨⟨o0, o1, o2, o3, o4, o5, o9, q0, q1, q2, q4, q5⟩, o7, o10, o8, ot⟩ := HO.out rfl
    have HN1 := Aside0.mk (show ∀ x ∈ [n0, n1, n2, n3, n4, n5, (if yes = true then 1 else 0), n9], okN x from by
      intro x hx
      simp only [List.mem_cons, List.not_mem_nil, or_false] at hx
      rcases hx with rfl | rfl | rfl | rfl | rfl | rfl | rfl | rfl <;> first | assumption | (unfold okN; split <;> omega))
    have HN2 := Aside0.mk (show ∀ x ∈ [m0, m1, m2, m4, m5, (tx.size : Int)], okN x from by
      intro x hx
      simp only [List.mem_cons, List.not_mem_nil, or_false] at hx
      rcases hx with rfl | rfl | rfl | rfl | rfl | rfl <;> first | assumption | (unfold okN; omega))
    have O7 := Aside0.mk o7
    have O10 := Aside0.mk o10
    have O8 := Aside0.mk o8
    have OT := Aside0.mk ot
    clear o0 o1 o2 o3 o4 o5 o9 q0 q1 q2 q4 q5 o7 o10 o8 ot HO HE
    have PZ := Aside0.mk HB.out.size
    have hb := below_alloc (Below.refl W2.heap.size W2) (.cells #[.slice none 0 0] 69 (0, 0))
    have P1 := kb P1 (hb)
    have HB := Aside0.mk (below_step HB.out (hb))
    clear hb
    have P3 := Aside0.mk (blk_new W2 (.cells #[.slice none 0 0] 69 (0, 0)))
    have hc6 := (blk_cell P1.out 6).trans (show _ = some (.bool yes) from rfl)
    go_upto_if 12 with (fail)
    clear hc6
    generalize W2.alloc (.cells #[.slice none 0 0] 69 (0, 0)) = W3 at P1 P3 HB ⊢
    obtain ⟨b3, hq_⟩ : ∃ b3, b3 = W2.heap.size := ⟨_, rfl⟩
    rw [← hq_] at P3 PZ ⊢
    clear hq_
    have PA := Aside0.mk (show PenAt w W3 b3 [] from ⟨none, 0, P3.out, Kd.R_nil _ _ _ _ _, HB.out, PZ.out⟩)
    clear P3 PZ
    go_cut [4] (fun v4 wc => v4 = .int .i64 (if yes = true then 1 else 0) ∧ Aside0 (wc = W3))
    case first =>
      cases yes with
      | true => go_wp2_with (fail); go_meet; case rel => exact ⟨rfl, ⟨rfl⟩⟩
      | false => go_wp2_with (fail); go_meet; case rel => exact ⟨rfl, ⟨rfl⟩⟩
    case rest =>
      obtain ⟨rfl, hw_⟩ := hcut
      obtain rfl := hw_.out
      clear hw_
      generalize hy_ : (if yes = true then (1 : Int) else 0) = yn at HN1 ⊢
      have HY := Aside0.mk hy_
      clear hy_
      have hc11 := (blk_cell P1.out 11).trans (show _ = some (.int .i64 m0) from rfl)
      have hc12 := (blk_cell P1.out 12).trans (show _ = some (.int .i64 m1) from rfl)
      have hc13 := (blk_cell P1.out 13).trans (show _ = some (.int .i64 m2) from rfl)
      have hc14 := (blk_cell P1.out 14).trans (show _ = some (.string tx) from rfl)
      have hc15 := (blk_cell P1.out 15).trans (show _ = some (.int .i64 m4) from rfl)
      have hc16 := (blk_cell P1.out 16).trans (show _ = some (.int .i64 m5) from rfl)
      have hb := below_alloc (Below.refl wc.heap.size wc) (.cells #[.int .i64 m0, .int .i64 m1, .int .i64 m2, .string tx, .int .i64 m4, .int .i64 m5] 31 (0, 0))
      have P1 := kb P1 (hb)
      have PA := Aside0.mk (PA.out.below (hb))
      have HB := Aside0.mk (below_step HB.out (hb))
      clear hb
      have P5 := Aside0.mk (blk_new wc (.cells #[.int .i64 m0, .int .i64 m1, .int .i64 m2, .string tx, .int .i64 m4, .int .i64 m5] 31 (0, 0)))
      go_upto_region 8 with (fail)
      clear hc11 hc12 hc13 hc14 hc15 hc16
      generalize wc.alloc (.cells #[.int .i64 m0, .int .i64 m1, .int .i64 m2, .string tx, .int .i64 m4, .int .i64 m5] 31 (0, 0)) = W4 at P1 P5 PA HB ⊢
      obtain ⟨b5, hq_⟩ : ∃ b5, b5 = wc.heap.size := ⟨_, rfl⟩
      rw [← hq_] at P5 ⊢
      clear hq_
      have hc0 := (blk_cell P1.out 0).trans (show _ = some (.int .i64 n0) from rfl)
      have hc1 := (blk_cell P1.out 1).trans (show _ = some (.int .i64 n1) from rfl)
      have hc2 := (blk_cell P1.out 2).trans (show _ = some (.int .i64 n2) from rfl)
      have hc3 := (blk_cell P1.out 3).trans (show _ = some (.int .i64 n3) from rfl)
      have hc4 := (blk_cell P1.out 4).trans (show _ = some (.int .i64 n4) from rfl)
      have hc5 := (blk_cell P1.out 5).trans (show _ = some (.int .i64 n5) from rfl)
      have hc9 := (blk_cell P1.out 9).trans (show _ = some (.int .i64 n9) from rfl)
      have hb := below_alloc (Below.refl W4.heap.size W4) (.cells #[.int .i64 n0, .int .i64 n1, .int .i64 n2, .int .i64 n3, .int .i64 n4, .int .i64 n5, .int .i64 yn, .int .i64 n9] 3 (0, 0))
      have P1 := kb P1 (hb)
      have P5 := kb P5 (hb)
      have PA := Aside0.mk (PA.out.below (hb))
      have HB := Aside0.mk (below_step HB.out (hb))
      clear hb
      have PL := Aside0.mk (blk_new W4 (.cells #[.int .i64 n0, .int .i64 n1, .int .i64 n2, .int .i64 n3, .int .i64 n4, .int .i64 n5, .int .i64 yn, .int .i64 n9] 3 (0, 0)))
      go_wp2_with (fail)
      clear hc0 hc1 hc2 hc3 hc4 hc5 hc9
      generalize W4.alloc (.cells #[.int .i64 n0, .int .i64 n1, .int .i64 n2, .int .i64 n3, .int .i64 n4, .int .i64 n5, .int .i64 yn, .int .i64 n9] 3 (0, 0)) = W5 at P1 P5 PL PA HB ⊢
      obtain ⟨bL, hq_⟩ : ∃ bL, bL = W4.heap.size := ⟨_, rfl⟩
      rw [← hq_] at PL ⊢
      clear hq_
      refine (numbersW b3 _ (some ⟨bL, 0, none⟩) 8 [n0, n1, n2, n3, n4, n5, yn, n9] w W5 PA.out (fun W hk_ _ => C_lit [n0, n1, n2, n3, n4, n5, yn, n9] (Nat.le_of_ble_eq_true rfl) (hk_.2 _ _ _ _ PL.out (by decide) (by decide))) (by decide) HN1.out (Nat.le_of_ble_eq_true rfl)).mono ?_
      rintro e W6 ⟨rfl, h_, hk⟩
      have PA := Aside0.mk h_
      clear h_
      have P1 := Aside0.mk (hk.2 _ _ _ _ P1.out (by decide) (by decide))
      have P5 := Aside0.mk (hk.2 _ _ _ _ P5.out (by decide) (by decide))
      have PL := Aside0.mk (hk.2 _ _ _ _ PL.out (by decide) (by decide))
      have HB := Aside0.mk PA.out.under
      clear hk
      clear PL
      obtain ⟨l1, hl_⟩ : ∃ y : List Int, y = ([] : List Int) ++ [n0, n1, n2, n3, n4, n5, yn, n9].flatMap numB := ⟨_, rfl⟩
      rw [← hl_] at PA
      have G1 := Aside0.mk hl_
      have N1 := Aside0.mk (show l1.length ≤ 40 by
        rw [hl_, List.length_append]
        exact Nat.le_trans (Nat.add_le_add (Nat.le_refl 0) (flat_len HN1.out)) (by simp))
      clear hl_
      have hc0 := (blk_cell P5.out 0).trans (show _ = some (.int .i64 m0) from rfl)
      have hc1 := (blk_cell P5.out 1).trans (show _ = some (.int .i64 m1) from rfl)
      have hc2 := (blk_cell P5.out 2).trans (show _ = some (.int .i64 m2) from rfl)
      have hc3 := (blk_cell P5.out 3).trans (show _ = some (.string tx) from rfl)
      have hc4 := (blk_cell P5.out 4).trans (show _ = some (.int .i64 m4) from rfl)
      have hc5 := (blk_cell P5.out 5).trans (show _ = some (.int .i64 m5) from rfl)
      have hb := below_alloc (Below.refl W6.heap.size W6) (.cells #[.int .i64 m0, .int .i64 m1, .int .i64 m2, .int .i64 m4, .int .i64 m5, .int .i64 (tx.size : Int)] 3 (0, 0))
      have P1 := kb P1 (hb)
      have P5 := kb P5 (hb)
      have PA := Aside0.mk (PA.out.below (hb))
      have HB := Aside0.mk (below_step HB.out (hb))
      clear hb
      have PL := Aside0.mk (blk_new W6 (.cells #[.int .i64 m0, .int .i64 m1, .int .i64 m2, .int .i64 m4, .int .i64 m5, .int .i64 (tx.size : Int)] 3 (0, 0)))
      go_wp2_with (fail)
      clear hc0 hc1 hc2 hc3 hc4 hc5
      generalize W6.alloc (.cells #[.int .i64 m0, .int .i64 m1, .int .i64 m2, .int .i64 m4, .int .i64 m5, .int .i64 (tx.size : Int)] 3 (0, 0)) = W7 at P1 P5 PL PA HB ⊢
      obtain ⟨bL, hq_⟩ : ∃ bL, bL = W6.heap.size := ⟨_, rfl⟩
      rw [← hq_] at PL ⊢
      clear hq_
      refine (numbersW b3 _ (some ⟨bL, 0, none⟩) 6 [m0, m1, m2, m4, m5, (tx.size : Int)] w W7 PA.out (fun W hk_ _ => C_lit [m0, m1, m2, m4, m5, (tx.size : Int)] (Nat.le_of_ble_eq_true rfl) (hk_.2 _ _ _ _ PL.out (by decide) (by decide))) (by have := N1.out; omega) HN2.out (Nat.le_of_ble_eq_true rfl)).mono ?_
      rintro e W8 ⟨rfl, h_, hk⟩
      have PA := Aside0.mk h_
      clear h_
      have P1 := Aside0.mk (hk.2 _ _ _ _ P1.out (by decide) (by decide))
      have P5 := Aside0.mk (hk.2 _ _ _ _ P5.out (by decide) (by decide))
      have PL := Aside0.mk (hk.2 _ _ _ _ PL.out (by decide) (by decide))
      have HB := Aside0.mk PA.out.under
      clear hk
      clear PL
      obtain ⟨l2, hl_⟩ : ∃ y : List Int, y = l1 ++ [m0, m1, m2, m4, m5, (tx.size : Int)].flatMap numB := ⟨_, rfl⟩
      rw [← hl_] at PA
      have G2 := Aside0.mk hl_
      have N2 := Aside0.mk (show l2.length ≤ 70 by
        rw [hl_, List.length_append]
        exact Nat.le_trans (Nat.add_le_add N1.out (flat_len HN2.out)) (by simp))
      clear hl_
      obtain ⟨A, c0, p1, p2, p3, p4⟩ := PA.out
      have BP := Aside0.mk p1
      have HOW := Aside0.mk p2
      have HG := Aside0.mk p4
      clear p1 p2 p3 p4
      have hc_ := (blk_cell BP.out 0).trans (show _ = some (.slice A l2.length c0) from rfl)
      have hd3 := (blk_cell P5.out 3).trans (show _ = some (.string tx) from rfl)
      obtain ⟨l3, hl_⟩ : ∃ y : List Int, y = l2 ++ bytesOf tx := ⟨_, rfl⟩
      have G3 := Aside0.mk hl_
      have N3 := Aside0.mk (show l3.length ≤ 150 by rw [hl_, List.length_append, bytesOf_length]; have := N2.out; have := OT.out; omega)
      clear hl_
      go_upto_region 11 with (((with_reducible refine gate_builtin (b := .append) (xs := #[.tmp 47, .tmp 49]) rfl ?_); refine print_append_str (w0 := w) w.heap.size rfl (.tmp 47) (.tmp 49) 69 9 5 rfl Try.underlying69 Try.underlying9 info5 (.slice A l2.length c0) l2 tx rfl rfl (Kd.own_of_R HOW.out) HB.out HB.out.size (by have := N2.out; have := OT.out; omega) ?_; intro va W9 ho hb hg; rw [← G3.out] at ho; have ON := Aside0.mk (show Kd.R (Kd.int .u8) 5 W9 w.heap.size (fun _ => True) va l3 from Kd.R_of_own ho (fun _ _ => trivial)); have KN := Aside0.mk (KT.grown (KT.refl W8) HOW.out hg); have BN := Aside0.mk ((hg.block b3 (blk_lt BP.out) (own_ne HOW.out BP.out (by decide))).trans BP.out); have HN_ := Aside0.mk hb; clear ho hb hg; obtain ⟨An, cn, e0⟩ := Kd.R_slice ON.out; subst e0; have he_ := (blk_cell BN.out 0).trans (show _ = some (.slice A l2.length c0) from rfl); have hf_ := blk_frozen BN.out 0))
      have PA := Aside0.mk (show PenAt w (W9.setCell ⟨b3, 0, none⟩ (.slice An l3.length cn)) b3 l3 from ⟨An, cn, blk_put BN.out 0 _ rfl, Kd.R_set ON.out BN.out (by decide) 0 _, below_set HN_.out HG.out, HG.out⟩)
      have hk := KN.out.set BN.out (.inr rfl) 0 (.slice An l3.length cn)
      clear he_ hf_ hc_ hd3 BN ON KN HN_ HOW BP
      generalize W9.setCell ⟨b3, 0, none⟩ (.slice An l3.length cn) = W10 at PA hk ⊢
      have P1 := Aside0.mk (hk.2 _ _ _ _ P1.out (by decide) (by decide))
      have P5 := Aside0.mk (hk.2 _ _ _ _ P5.out (by decide) (by decide))
      have HB := Aside0.mk PA.out.under
      clear hk
      have hc7 := (blk_cell P1.out 7).trans (show _ = some (.slice A7 ls.length c7) from rfl)
      go_wp2_with (fail)
      clear hc7
      refine (countedW b3 _ A7 c7 ls w W10 PA.out (fun W _ hb => Kd.C_below HR7.out hb) (by have := N3.out; omega) O7.out (by have := HL.out; omega)).mono ?_
      rintro e W11 ⟨rfl, h_, hk⟩
      have PA := Aside0.mk h_
      clear h_
      have P1 := Aside0.mk (hk.2 _ _ _ _ P1.out (by decide) (by decide))
      have P5 := Aside0.mk (hk.2 _ _ _ _ P5.out (by decide) (by decide))
      have HB := Aside0.mk PA.out.under
      clear hk
      obtain ⟨l4, hl_⟩ : ∃ y : List Int, y = l3 ++ (numB ls.length ++ ls.flatMap numB) := ⟨_, rfl⟩
      rw [← hl_] at PA
      have G4 := Aside0.mk hl_
      have N4 := Aside0.mk (show l4.length ≤ 10000000 by
        rw [hl_, List.length_append]
        rw [List.length_append]
        have h1 := numB_len (n := (ls.length : Int)) (by have := HL.out; omega)
        have h2 := flat_len O7.out
        have := N3.out
        have := HL.out
        omega)
      clear hl_
      have hc10 := (blk_cell P1.out 10).trans (show _ = some (.slice A10 lv.length c10) from rfl)
      go_wp2_with (fail)
      clear hc10
      refine (countedW b3 _ A10 c10 lv w W11 PA.out (fun W _ hb => Kd.C_below HR10.out hb) (by have := N4.out; omega) O10.out (by have := HL.out; omega)).mono ?_
      rintro e W12 ⟨rfl, h_, hk⟩
      have PA := Aside0.mk h_
      clear h_
      have P1 := Aside0.mk (hk.2 _ _ _ _ P1.out (by decide) (by decide))
      have P5 := Aside0.mk (hk.2 _ _ _ _ P5.out (by decide) (by decide))
      have HB := Aside0.mk PA.out.under
      clear hk
      obtain ⟨l5, hl_⟩ : ∃ y : List Int, y = l4 ++ (numB lv.length ++ lv.flatMap numB) := ⟨_, rfl⟩
      rw [← hl_] at PA
      have G5 := Aside0.mk hl_
      have N5 := Aside0.mk (show l5.length ≤ 20000000 by
        rw [hl_, List.length_append]
        rw [List.length_append]
        have h1 := numB_len (n := (lv.length : Int)) (by have := HL.out; omega)
        have h2 := flat_len O10.out
        have := N4.out
        have := HL.out
        omega)
      clear hl_
      have hc8 := (blk_cell P1.out 8).trans (show _ = some (.slice A8 lp.length c8) from rfl)
      go_wp2_with (fail)
      clear hc8
      refine (numberW b3 _ (lp.length : Int) w W12 PA.out (by have := N5.out; omega) (by have := HL.out; omega)).mono ?_
      rintro e W13 ⟨rfl, h_, hk⟩
      have PA := Aside0.mk h_
      clear h_
      have P1 := Aside0.mk (hk.2 _ _ _ _ P1.out (by decide) (by decide))
      have P5 := Aside0.mk (hk.2 _ _ _ _ P5.out (by decide) (by decide))
      have HB := Aside0.mk PA.out.under
      clear hk
      obtain ⟨l6, hl_⟩ : ∃ y : List Int, y = l5 ++ numB lp.length := ⟨_, rfl⟩
      rw [← hl_] at PA
      have G6 := Aside0.mk hl_
      have N6 := Aside0.mk (show l6.length ≤ 20000010 by
        rw [hl_, List.length_append]
        have := numB_len (n := (lp.length : Int)) (by have := HL.out; omega)
        have := N5.out
        omega)
      clear hl_
      have hc8 := (blk_cell P1.out 8).trans (show _ = some (.slice A8 lp.length c8) from rfl)
      go_wp2_with (fail)
      clear hc8
      go_loopw [64] (fun i wr => ∃ k : Nat, i = .int .i64 (k : Int) ∧ Aside0 (k ≤ lp.length) ∧ Aside0 (PenAt w wr b3 (l6 ++ pairL (lp.take k)))) (fun i _ => lp.length - (intOf i).toNat)
      case atStart => exact ⟨0, rfl, ⟨Nat.zero_le _⟩, ⟨by rw [List.take_zero]; show PenAt w _ b3 (l6 ++ []); rw [List.append_nil]; exact PA.out⟩⟩
      case round =>
        clear PA HB P1 P5
        obtain ⟨k, rfl, HK0, PA⟩ := hrel
        have HB := Aside0.mk PA.out.under
        by_cases hlt : k < lp.length
        · have HT := Aside0.mk hlt
          have hdl : decide (k < lp.length) = true := decide_eq_true hlt
          have hwk : wrap64 ((k : Int) + 1) = (k : Int) + 1 := by unfold wrap64; have := HL.out; omega
          obtain ⟨ad, hA, y0, y1⟩ := at_T68 (Kd.C_below HR8.out HB.out) (k : Int) (by omega) (by omega)
          subst hA
          simp only [Int.toNat_natCast] at y0 y1
          have hrd : rd_T68 lp (k : Int) = lp[k]'hlt := rd68_lt hlt
          rw [hrd] at y0 y1
          have HE := Aside0.mk (O8.out _ (List.getElem_mem hlt))
          generalize hy_ : lp[k]'hlt = y at y0 y1 HE
          have HY := Aside0.mk hy_
          clear hrd hy_
          have hlt1 : (k : Int) < (lp.length : Int) := by omega
          have hb := below_alloc (Below.refl wr.heap.size wr) (.cells #[.int .i64 y.f0, .int .i64 y.f1] 68 (0, 0))
          have PA := Aside0.mk (PA.out.below (hb))
          have HB := Aside0.mk (below_step HB.out (hb))
          clear hb
          have P7 := Aside0.mk (blk_new wr (.cells #[.int .i64 y.f0, .int .i64 y.f1] 68 (0, 0)))
          go_upto_region 17 with (fail)
          clear y0 y1
          generalize wr.alloc (.cells #[.int .i64 y.f0, .int .i64 y.f1] 68 (0, 0)) = W14 at P7 PA HB ⊢
          obtain ⟨b7, hq_⟩ : ∃ b7, b7 = wr.heap.size := ⟨_, rfl⟩
          rw [← hq_] at P7 ⊢
          clear hq_
          have hc0 := (blk_cell P7.out 0).trans (show _ = some (.int .i64 y.f0) from rfl)
          have hc1 := (blk_cell P7.out 1).trans (show _ = some (.int .i64 y.f1) from rfl)
          have hb := below_alloc (Below.refl W14.heap.size W14) (.cells #[.int .i64 y.f0, .int .i64 y.f1] 3 (0, 0))
          have P7 := kb P7 (hb)
          have PA := Aside0.mk (PA.out.below (hb))
          have HB := Aside0.mk (below_step HB.out (hb))
          clear hb
          have PL := Aside0.mk (blk_new W14 (.cells #[.int .i64 y.f0, .int .i64 y.f1] 3 (0, 0)))
          go_wp2_with (fail)
          clear hc0 hc1
          generalize W14.alloc (.cells #[.int .i64 y.f0, .int .i64 y.f1] 3 (0, 0)) = W15 at P7 PL PA HB ⊢
          obtain ⟨bL, hq_⟩ : ∃ bL, bL = W14.heap.size := ⟨_, rfl⟩
          rw [← hq_] at PL ⊢
          clear hq_
          refine (numbersW b3 _ (some ⟨bL, 0, none⟩) 2 [y.f0, y.f1] w W15 PA.out (fun W hk_ _ => C_lit [y.f0, y.f1] (Nat.le_of_ble_eq_true rfl) (hk_.2 _ _ _ _ PL.out (by decide) (by decide))) (by
            have := pairL_len (l := lp.take k) (fun q hq => O8.out q (List.mem_of_mem_take hq))
            rw [List.length_take] at this
            rw [List.length_append]
            have := N6.out
            have := HL.out
            omega) (fun q hq => by
            simp only [List.mem_cons, List.not_mem_nil, or_false] at hq
            rcases hq with rfl | rfl
            · exact HE.out.1
            · exact HE.out.2) (Nat.le_of_ble_eq_true rfl)).mono ?_
          rintro e W16 ⟨rfl, h_, hk⟩
          have PN := Aside0.mk h_
          clear h_ hk
          go_wp2_with (fail)
          go_roundw
          case rel => exact ⟨k + 1, (by first | rfl | exact congrArg (Value.int .i64) (by omega)), ⟨HT.out⟩, ⟨by
            have h := PN.out
            rw [show [y.f0, y.f1].flatMap numB = numB y.f0 ++ numB y.f1 by simp, List.append_assoc] at h
            rw [pairL_take HT.out, HY.out]
            exact h⟩⟩
          case measure =>
            (try rw [hwk])
            show lp.length - ((k : Int) + 1).toNat < lp.length - (k : Int).toNat
            have := HT.out
            omega
        · have hdl : decide (k < lp.length) = false := decide_eq_false hlt
          obtain rfl : lp.length = k := by have := HK0.out; omega
          clear hlt
          have h_ := PA.out
          rw [List.take_length] at h_
          have E : l6 ++ pairL lp = out := by
            rw [HOUT.out]
            simp only [if_true]
            rw [G6.out, G5.out, G4.out, G3.out, G2.out, G1.out, ← HY.out]
            unfold packL
            simp only [List.nil_append, List.append_assoc]
          rw [E] at h_
          obtain ⟨A, c0, p1, p2, p3, p4⟩ := h_
          have BP := Aside0.mk p1
          have HOW := Aside0.mk p2
          clear p1 p2 p3 p4 E
          have hc_ := (blk_cell BP.out 0).trans (show _ = some (.slice A out.length c0) from rfl)
          go_wp2_with (fail)
          go_ret
          exact ⟨A, c0, rfl, HOW.out, HB.out⟩
end Go.Proofs.Ytbjdnfgalopfiaa.PE
