/- spec.WordPack. -/
import Derived.Test.YtbjdnfgalopfiaaPackE
import Derived.Test.YtbjdnfgalopfiaaWordE
import Derived.Test.YtbjdnfgalopfiaaPEx22
import Derived.Test.YtbjdnfgalopfiaaPEx23
import Derived.Test.YtbjdnfgalopfiaaPEx24
import Derived.Test.YtbjdnfgalopfiaaPEx25
import Derived.Deep.Cut
namespace Go.Proofs.Ytbjdnfgalopfiaa.PE
open Go.RowKit Go.Proofs.YtbjdnfgalopfiaaW.PrintWords Go.Proofs.YtbjdnfgalopfiaaW.PrintLast Go.Proofs.YtbjdnfgalopfiaaW.PrintMore Go.Proofs.Ytbjdnfgalopfiaa.PB
attribute [local go_sem] max2_int min2_int max_two min_two max_three min_three max_four min_four
set_option linter.unusedVariables false
set_option linter.unusedSimpArgs false
set_option maxHeartbeats 8000000 in
set_option maxRecDepth 100000 in
theorem spackW (n0 n1 n2 n3 n4 n5 : Int) (yes : Bool) (A7 : Option Addr) (c7 : Nat) (ls : List Int) (A8 : Option Addr) (c8 : Nat) (lp : List S68) (n9 : Int) (A10 : Option Addr) (c10 : Nat) (lv : List Int) (m0 m1 m2 : Int) (tx : ByteArray) (m4 m5 : Int) (w : World) (hr7 : Kd.C (Kd.int .i64) w A7 ls.length ls) (hc7 : ls.length ≤ c7) (hr8 : Kd.C k68 w A8 lp.length lp) (hc8 : lp.length ≤ c8) (hr10 : Kd.C (Kd.int .i64) w A10 lv.length lv) (hc10 : lv.length ≤ c10) (hl : ls.length ≤ 1048576 ∧ lp.length ≤ 1048576 ∧ lv.length ≤ 1048576) (b : Bool) (k : Nat) (out : List Int) (hk : spec_WordOk.f k n0 n1 n2 n3 n4 n5 yes ls lp n9 lv m0 m1 m2 tx m4 m5 = some b) (hb : b = true → okW n0 n1 n2 n3 n4 n5 ls lp n9 lv m0 m1 m2 tx m4 m5) (ho : out = (if b = true then packL n0 n1 n2 n3 n4 n5 yes ls lp n9 lv m0 m1 m2 tx m4 m5 else [])) :
    Calls Try.prog 12 #[.agg #[.int .i64 n0, .int .i64 n1, .int .i64 n2, .int .i64 n3, .int .i64 n4, .int .i64 n5, .bool yes, .slice A7 ls.length c7, .slice A8 lp.length c8, .int .i64 n9, .slice A10 lv.length c10, .int .i64 m0, .int .i64 m1, .int .i64 m2, .string tx, .int .i64 m4, .int .i64 m5]] w fun e w' => ∃ (A : Option Addr) (c : Nat), e = .returned (.slice A out.length c) ∧ Kd.R (Kd.int .u8) 5 w' w.heap.size (fun _ => True) (.slice A out.length c) out ∧ Below w.heap.size w w' := by
  have hu33 := Try.underlying33
  have hu31 := Try.underlying31
  have hu68 := Try.underlying68
  have hu69 := Try.underlying69
  have HR7 := Aside0.mk hr7
  have HC7 := Aside0.mk hc7
  clear hr7 hc7
  have HR8 := Aside0.mk hr8
  have HC8 := Aside0.mk hc8
  clear hr8 hc8
  have HR10 := Aside0.mk hr10
  have HC10 := Aside0.mk hc10
  clear hr10 hc10
  have HL := Aside0.mk hl
  have HE := Aside0.mk hk
  have HO := Aside0.mk hb
  have HOUT := Aside0.mk ho
  clear hl hk hb ho
  have HB := Aside0.mk (Below.refl w.heap.size w)
  have hb := below_alloc (Below.refl w.heap.size w) (.cells #[.int .i64 n0, .int .i64 n1, .int .i64 n2, .int .i64 n3, .int .i64 n4, .int .i64 n5, .bool yes, .slice A7 ls.length c7, .slice A8 lp.length c8, .int .i64 n9, .slice A10 lv.length c10, .int .i64 m0, .int .i64 m1, .int .i64 m2, .string tx, .int .i64 m4, .int .i64 m5] 33 (0, 0))
  have HB := Aside0.mk (below_step HB.out (hb))
  clear hb
  have P1 := Aside0.mk (blk_new w (.cells #[.int .i64 n0, .int .i64 n1, .int .i64 n2, .int .i64 n3, .int .i64 n4, .int .i64 n5, .bool yes, .slice A7 ls.length c7, .slice A8 lp.length c8, .int .i64 n9, .slice A10 lv.length c10, .int .i64 m0, .int .i64 m1, .int .i64 m2, .string tx, .int .i64 m4, .int .i64 m5] 33 (0, 0)))
  go_enter Try.func12, Try.ntmps12
  go_upto_region 1 with (fail)
  generalize w.alloc (.cells #[.int .i64 n0, .int .i64 n1, .int .i64 n2, .int .i64 n3, .int .i64 n4, .int .i64 n5, .bool yes, .slice A7 ls.length c7, .slice A8 lp.length c8, .int .i64 n9, .slice A10 lv.length c10, .int .i64 m0, .int .i64 m1, .int .i64 m2, .string tx, .int .i64 m4, .int .i64 m5] 33 (0, 0)) = W2 at P1 HB ⊢
  obtain ⟨b1, hq_⟩ : ∃ b1, b1 = w.heap.size := ⟨_, rfl⟩
  rw [← hq_] at P1 ⊢
  clear hq_
  go_upto_region 2 with (((with_reducible refine gate_dst (N := 7) rfl ?_); refine Kd.R_lit (Kd.int .u8) _ 5 ?hg (N := 7) ?hd (xs := ([] : List Int)) (inner := []) (ok := fun _ => True) (okp := fun _ => True) ?hr ?hp (fun _ hk => hk) trivial (Below.refl _ _) (Nat.le_refl _) (by simp) ?_; (case hd => rfl); (case hg => rfl); (case hr => first | (go_simp; done) | (go_simp; rfl)); (case hp => exact (Reps.none _ _)); intro va W3 qa hb hg_ hn_; clear hg_ hn_; have hsz_ := HB.out.size; have P1 := kb P1 hb; have HB := Aside0.mk (below_step HB.out hb); have OU := Aside0.mk (Kd.R_lower qa hsz_); clear hb qa hsz_; obtain ⟨A, c0, e0⟩ := Kd.R_slice OU.out; subst e0))
  go_wp2_with (((with_reducible refine gate_dst (N := 8) rfl ?_); refine wpList_load_row rfl 33 (.tmp 1) rfl b1 rfl 33 #[.int .i64 n0, .int .i64 n1, .int .i64 n2, .int .i64 n3, .int .i64 n4, .int .i64 n5, .bool yes, .slice A7 ls.length c7, .slice A8 lp.length c8, .int .i64 n9, .slice A10 lv.length c10, .int .i64 m0, .int .i64 m1, .int .i64 m2, .string tx, .int .i64 m4, .int .i64 m5] (0, 0) _ P1.out hu33 rfl (by kernel_rfl) ?_))
  refine (spec_WordOk.calls k n0 n1 n2 n3 n4 n5 yes A7 c7 ls A8 c8 lp n9 A10 c10 lv m0 m1 m2 tx m4 m5 b W3 (Kd.C_below HR7.out HB.out) HC7.out (Kd.C_below HR8.out HB.out) HC8.out (Kd.C_below HR10.out HB.out) HC10.out HE.out).mono ?_
  rintro e W4 ⟨rfl, hb⟩
  have P1 := kb P1 (hb)
  have OU := Aside0.mk (Kd.R_below OU.out (hb))
  have HB := Aside0.mk (below_step HB.out (hb))
  clear hb
  cases b with
  | false =>
    go_wp2_with (fail)
    go_ret
    obtain rfl : out = [] := HOUT.out
    exact ⟨A, c0, rfl, OU.out, HB.out⟩
  | true =>
    obtain ⟨⟨o0, o1, o2, o3, o4, o5, o9, q0, q1, q2, q4, q5⟩, o7, o10, o8, ot⟩ := HO.out rfl
    obtain ⟨yn, hy_⟩ : ∃ y : Int, y = (if yes = true then (1 : Int) else 0) := ⟨_, rfl⟩
    have HY := Aside0.mk hy_
    obtain ⟨hd, hhd_⟩ : ∃ y : List Int, y = [n0, n1, n2, n3, n4, n5, yn, n9, m0, m1, m2, m4, m5, (tx.size : Int)] := ⟨_, rfl⟩
    have HHD := Aside0.mk hhd_
    have HDL := Aside0.mk (show hd.length = 14 by rw [hhd_]; rfl)
    have HN1 := Aside0.mk (show ∀ x ∈ hd, okN x from by
      intro x hx
      rw [hhd_] at hx
      simp only [List.mem_cons, List.not_mem_nil, or_false] at hx
      rcases hx with rfl | rfl | rfl | rfl | rfl | rfl | rfl | rfl | rfl | rfl | rfl | rfl | rfl | rfl <;> first | assumption | (unfold okN; omega) | (rw [hy_]; unfold okN; split <;> omega))
    have O7 := Aside0.mk o7
    have O10 := Aside0.mk o10
    have O8 := Aside0.mk o8
    have OT := Aside0.mk ot
    clear hhd_ hy_ o0 o1 o2 o3 o4 o5 o9 q0 q1 q2 q4 q5 o7 o10 o8 ot HO HE
    go_wp2_with (fail)
    have P1 := kbd P1
    have OU := Aside0.mk (Kd.R_drew OU.out)
    have HB := Aside0.mk (below_drew1 HB.out)
    have HSS := (show (W4.drew).cell? ⟨b1, 0, none⟩ = some (.int .i64 n0) ∧ (W4.drew).cell? ⟨b1, 1, none⟩ = some (.int .i64 n1) ∧ (W4.drew).cell? ⟨b1, 2, none⟩ = some (.int .i64 n2) ∧ (W4.drew).cell? ⟨b1, 3, none⟩ = some (.int .i64 n3) ∧ (W4.drew).cell? ⟨b1, 4, none⟩ = some (.int .i64 n4) ∧ (W4.drew).cell? ⟨b1, 5, none⟩ = some (.int .i64 n5) ∧ (W4.drew).cell? ⟨b1, 6, none⟩ = some (.bool yes) ∧ (W4.drew).cell? ⟨b1, 9, none⟩ = some (.int .i64 n9) ∧ (W4.drew).cell? ⟨b1, 11, none⟩ = some (.int .i64 m0) ∧ (W4.drew).cell? ⟨b1, 12, none⟩ = some (.int .i64 m1) ∧ (W4.drew).cell? ⟨b1, 13, none⟩ = some (.int .i64 m2) ∧ (W4.drew).cell? ⟨b1, 14, none⟩ = some (.string tx) ∧ (W4.drew).cell? ⟨b1, 15, none⟩ = some (.int .i64 m4) ∧ (W4.drew).cell? ⟨b1, 16, none⟩ = some (.int .i64 m5) ∧ True from ⟨(blk_cell P1.out 0).trans rfl, (blk_cell P1.out 1).trans rfl, (blk_cell P1.out 2).trans rfl, (blk_cell P1.out 3).trans rfl, (blk_cell P1.out 4).trans rfl, (blk_cell P1.out 5).trans rfl, (blk_cell P1.out 6).trans rfl, (blk_cell P1.out 9).trans rfl, (blk_cell P1.out 11).trans rfl, (blk_cell P1.out 12).trans rfl, (blk_cell P1.out 13).trans rfl, (blk_cell P1.out 14).trans rfl, (blk_cell P1.out 15).trans rfl, (blk_cell P1.out 16).trans rfl, trivial⟩)
    refine start_ (n := 38) (S := fun w' => w'.cell? ⟨b1, 0, none⟩ = some (.int .i64 n0) ∧ w'.cell? ⟨b1, 1, none⟩ = some (.int .i64 n1) ∧ w'.cell? ⟨b1, 2, none⟩ = some (.int .i64 n2) ∧ w'.cell? ⟨b1, 3, none⟩ = some (.int .i64 n3) ∧ w'.cell? ⟨b1, 4, none⟩ = some (.int .i64 n4) ∧ w'.cell? ⟨b1, 5, none⟩ = some (.int .i64 n5) ∧ w'.cell? ⟨b1, 6, none⟩ = some (.bool yes) ∧ w'.cell? ⟨b1, 9, none⟩ = some (.int .i64 n9) ∧ w'.cell? ⟨b1, 11, none⟩ = some (.int .i64 m0) ∧ w'.cell? ⟨b1, 12, none⟩ = some (.int .i64 m1) ∧ w'.cell? ⟨b1, 13, none⟩ = some (.int .i64 m2) ∧ w'.cell? ⟨b1, 14, none⟩ = some (.string tx) ∧ w'.cell? ⟨b1, 15, none⟩ = some (.int .i64 m4) ∧ w'.cell? ⟨b1, 16, none⟩ = some (.int .i64 m5) ∧ True) (ds := []) (bt_ 38 0) (by kernel_rfl) rfl rfl HSS (fun hHeld => ?_)
    clear HSS
    generalize W4.drew = W5 at P1 OU HB hHeld ⊢
    refine pu_ 0 (some 12) (bt_ 38 1) (by kernel_rfl) ?_
    refine tk_ 1 (some 13) (bt_ 38 3) (by kernel_rfl) hHeld ?_
    refine pu_ 2 (some 14) (bt_ 38 7) (by kernel_rfl) ?_
    refine tk_ 3 (some 15) (bt_ 38 15) (by kernel_rfl) hHeld ?_
    refine pu_ 4 (some 16) (bt_ 38 31) (by kernel_rfl) ?_
    refine tk_ 5 (some 17) (bt_ 38 63) (by kernel_rfl) hHeld ?_
    refine pu_ 6 (some 18) (bt_ 38 127) (by kernel_rfl) ?_
    refine tk_ 7 (some 19) (bt_ 38 255) (by kernel_rfl) hHeld ?_
    refine pu_ 8 (some 20) (bt_ 38 511) (by kernel_rfl) ?_
    refine tk_ 9 (some 21) (bt_ 38 1023) (by kernel_rfl) hHeld ?_
    refine pu_ 10 (some 22) (bt_ 38 2047) (by kernel_rfl) ?_
    refine tk_ 11 (some 23) (bt_ 38 4095) (by kernel_rfl) hHeld ?_
    refine pu_ 12 (some 24) (bt_ 38 8191) (by kernel_rfl) ?_
    refine tk_ 13 (some 25) (bt_ 38 16383) (by kernel_rfl) hHeld ?_
    refine pu_ 15 (some 27) (bt_ 38 49151) (by kernel_rfl) ?_
    refine tk_ 16 (some 28) (bt_ 38 114687) (by kernel_rfl) hHeld ?_
    refine pu_ 17 (some 29) (bt_ 38 245759) (by kernel_rfl) ?_
    refine pu_ 18 (some 30) (bt_ 38 507903) (by kernel_rfl) ?_
    refine tk_ 19 (some 31) (bt_ 38 1032191) (by kernel_rfl) hHeld ?_
    refine pu_ 20 (some 32) (bt_ 38 2080767) (by kernel_rfl) ?_
    refine pu_ 21 (some 33) (bt_ 38 4177919) (by kernel_rfl) ?_
    refine tk_ 22 (some 34) (bt_ 38 8372223) (by kernel_rfl) hHeld ?_
    refine pu_ 23 (some 35) (bt_ 38 16760831) (by kernel_rfl) ?_
    refine pu_ 24 (some 36) (bt_ 38 33538047) (by kernel_rfl) ?_
    refine tk_ 25 (some 37) (bt_ 38 67092479) (by kernel_rfl) hHeld ?_
    refine pu_ 26 (some 38) (bt_ 38 134201343) (by kernel_rfl) ?_
    refine pu_ 27 (some 39) (bt_ 38 268419071) (by kernel_rfl) ?_
    refine tk_ 28 (some 40) (bt_ 38 536854527) (by kernel_rfl) hHeld ?_
    refine pu_ 29 (some 41) (bt_ 38 1073725439) (by kernel_rfl) ?_
    refine pu_ 30 (some 42) (bt_ 38 2147467263) (by kernel_rfl) ?_
    refine tk_ 31 (some 43) (bt_ 38 4294950911) (by kernel_rfl) hHeld ?_
    refine pu_ 32 (some 44) (bt_ 38 8589918207) (by kernel_rfl) ?_
    refine pu_ 33 (some 45) (bt_ 38 17179852799) (by kernel_rfl) ?_
    refine tk_ 34 (some 46) (bt_ 38 34359721983) (by kernel_rfl) hHeld ?_
    refine pu_ 35 (some 47) (bt_ 38 68719460351) (by kernel_rfl) ?_
    clear hHeld
    refine one_ (i := 14) (N := some 26) (bt_ 38 68719476735) rfl rfl (by kernel_rfl) (by decide) (fun K hK => ?_)
    refine goes_ Try.func42 (by kernel_rfl) rfl #[.bool yes] (by rfl) rfl rfl (by simp only [List.map_toArray, List.map_cons, List.map_nil]; rfl) ?_
    refine (spec_l13Yes.calls yes yn W5 (by rw [HY.out]; cases yes <;> rfl)).mono ?_
    rintro e wz_ ⟨rfl, ⟨nd, rfl⟩⟩
    refine ⟨_, rfl, ?_⟩
    have hb := pw_below_drewN (Below.refl W5.heap.size W5) nd
    generalize W5.drewN nd = W6 at hb ⊢
    have P1 := kb P1 (hb)
    have OU := Aside0.mk (Kd.R_below OU.out (hb))
    have HB := Aside0.mk (below_step HB.out (hb))
    clear hb
    refine hK.out _ _ ⟨(blk_cell P1.out 0).trans rfl, (blk_cell P1.out 1).trans rfl, (blk_cell P1.out 2).trans rfl, (blk_cell P1.out 3).trans rfl, (blk_cell P1.out 4).trans rfl, (blk_cell P1.out 5).trans rfl, (blk_cell P1.out 6).trans rfl, (blk_cell P1.out 9).trans rfl, (blk_cell P1.out 11).trans rfl, (blk_cell P1.out 12).trans rfl, (blk_cell P1.out 13).trans rfl, (blk_cell P1.out 14).trans rfl, (blk_cell P1.out 15).trans rfl, (blk_cell P1.out 16).trans rfl, trivial⟩ (fun hHeld => ?_)
    clear hK K
    refine norm_ (a' := ?_) ?_ ?_
    rotate_left
    · show Act.put _ (some 26) _ = _
      simp only [Act.put, List.setIfInBounds_toArray, List.set_cons_zero, List.set_cons_succ, i64_w, i32_w]
      rfl
    clear hHeld
    refine one_ (i := 36) (N := some 48) (bt_ 38 137438953471) rfl rfl (by kernel_rfl) (by decide) (fun K hK => ?_)
    refine event_step (v := .slice (some ⟨W6.heap.size, 0, none⟩) 14 14) (w1 := W6.alloc (.cells #[.int .i64 n0, .int .i64 n1, .int .i64 n2, .int .i64 n3, .int .i64 n4, .int .i64 n5, .int .i64 yn, .int .i64 n9, .int .i64 m0, .int .i64 m1, .int .i64 m2, .int .i64 m4, .int .i64 m5, .int .i64 (tx.size : Int)] 3 (0, 0))) rfl (by first | (go_simp; done) | (go_simp; rfl)) ?_
    have hb := below_alloc (Below.refl W6.heap.size W6) (.cells #[.int .i64 n0, .int .i64 n1, .int .i64 n2, .int .i64 n3, .int .i64 n4, .int .i64 n5, .int .i64 yn, .int .i64 n9, .int .i64 m0, .int .i64 m1, .int .i64 m2, .int .i64 m4, .int .i64 m5, .int .i64 (tx.size : Int)] 3 (0, 0))
    have P1 := kb P1 (hb)
    have OU := Aside0.mk (Kd.R_below OU.out (hb))
    have HB := Aside0.mk (below_step HB.out (hb))
    clear hb
    have PL := Aside0.mk (blk_new W6 (.cells #[.int .i64 n0, .int .i64 n1, .int .i64 n2, .int .i64 n3, .int .i64 n4, .int .i64 n5, .int .i64 yn, .int .i64 n9, .int .i64 m0, .int .i64 m1, .int .i64 m2, .int .i64 m4, .int .i64 m5, .int .i64 (tx.size : Int)] 3 (0, 0)))
    generalize W6.alloc (.cells #[.int .i64 n0, .int .i64 n1, .int .i64 n2, .int .i64 n3, .int .i64 n4, .int .i64 n5, .int .i64 yn, .int .i64 n9, .int .i64 m0, .int .i64 m1, .int .i64 m2, .int .i64 m4, .int .i64 m5, .int .i64 (tx.size : Int)] 3 (0, 0)) = W7 at P1 PL OU HB ⊢
    obtain ⟨bL, hq_⟩ : ∃ bL, bL = W6.heap.size := ⟨_, rfl⟩
    rw [← hq_] at PL ⊢
    clear hq_
    refine hK.out _ _ ⟨(blk_cell P1.out 0).trans rfl, (blk_cell P1.out 1).trans rfl, (blk_cell P1.out 2).trans rfl, (blk_cell P1.out 3).trans rfl, (blk_cell P1.out 4).trans rfl, (blk_cell P1.out 5).trans rfl, (blk_cell P1.out 6).trans rfl, (blk_cell P1.out 9).trans rfl, (blk_cell P1.out 11).trans rfl, (blk_cell P1.out 12).trans rfl, (blk_cell P1.out 13).trans rfl, (blk_cell P1.out 14).trans rfl, (blk_cell P1.out 15).trans rfl, (blk_cell P1.out 16).trans rfl, trivial⟩ (fun hHeld => ?_)
    clear hK K
    refine norm_ (a' := ?_) ?_ ?_
    rotate_left
    · show Act.put _ (some 48) _ = _
      simp only [Act.put, List.setIfInBounds_toArray, List.set_cons_zero, List.set_cons_succ, i64_w, i32_w]
      rfl
    clear hHeld
    refine pu_ 37 (some 4) (bt_ 38 274877906943) (by kernel_rfl) ?_
    refine done_ (by kernel_rfl) ?_
    have PL := Aside0.mk (show W7.heap[bL]? = some (.cells ((hd.map (Value.int .i64)).toArray) 3 (0, 0)) by rw [HHD.out]; exact PL.out)
    go_wp2_with (fail)
    go_loopw [3, 5] (fun v3 i wr => ∃ (k : Nat) (A : Option Addr) (c : Nat) (l : List Int), v3 = .slice A l.length c ∧ i = .int .i64 (k : Int) ∧ Aside0 (k ≤ hd.length) ∧ Aside0 (l = (hd.take k).flatMap numB) ∧ Aside0 (Kd.R (Kd.int .u8) 5 wr w.heap.size (fun _ => True) (.slice A l.length c) l) ∧ Aside0 (Below w.heap.size w wr) ∧ Aside0 (wr.heap[b1]? = some (.cells #[.int .i64 n0, .int .i64 n1, .int .i64 n2, .int .i64 n3, .int .i64 n4, .int .i64 n5, .bool yes, .slice A7 ls.length c7, .slice A8 lp.length c8, .int .i64 n9, .slice A10 lv.length c10, .int .i64 m0, .int .i64 m1, .int .i64 m2, .string tx, .int .i64 m4, .int .i64 m5] 33 (0, 0))) ∧ Aside0 (wr.heap[bL]? = some (.cells ((hd.map (Value.int .i64)).toArray) 3 (0, 0)))) (fun _ i _ => 14 - (intOf i).toNat)
    case atStart => exact ⟨0, A, c0, [], rfl, rfl, ⟨Nat.zero_le _⟩, ⟨by rw [List.take_zero]; rfl⟩, OU, HB, P1, PL⟩
    case round =>
      clear OU HB P1 PL
      obtain ⟨k, A, c0, l, rfl, rfl, HK0, HLE, OU, HB, P1, PL⟩ := hrel
      have NL := Aside0.mk (show l.length ≤ 70 by
        rw [HLE.out]
        have := flat_len (xs := hd.take k) (fun q hq => HN1.out q (List.mem_of_mem_take hq))
        rw [List.length_take] at this
        have := HDL.out
        omega)
      by_cases hlt : k < hd.length
      · have HT := Aside0.mk hlt
        have h14 : k < 14 := by have := HDL.out; omega
        have hdl : decide (k < 14) = true := decide_eq_true h14
        have hdm : decide ((k : Int) < 14) = true := decide_eq_true (by omega)
        have hwk : wrap64 ((k : Int) + 1) = (k : Int) + 1 := by unfold wrap64; omega
        have y0 : wr.cell? ⟨bL, k, none⟩ = some (.int .i64 (hd[k]'hlt)) := (blk_cell PL.out k).trans (by rw [List.getElem?_toArray, List.getElem?_map, List.getElem?_eq_getElem hlt]; rfl)
        have HE := Aside0.mk (HN1.out _ (List.getElem_mem hlt))
        generalize hy_ : hd[k]'hlt = y at y0 HE
        have HYK := Aside0.mk hy_
        clear hy_
        have hi14 : (k : Int) < 14 := by omega
        go_wp2_with (fail)
        clear y0
        refine (numS A c0 l y w wr OU.out HB.out (by have := NL.out; omega) HE.out).mono ?_
        rintro e W8 ⟨A', c', rfl, hr_, hb_', hk⟩
        have OU := Aside0.mk hr_
        have HB := Aside0.mk hb_'
        clear hr_ hb_'
        have P1 := Aside0.mk (hk.2 _ _ _ _ P1.out (by decide) (by decide))
        have PL := Aside0.mk (hk.2 _ _ _ _ PL.out (by decide) (by decide))
        clear hk
        obtain ⟨z1, hz_⟩ : ∃ q : List Int, q = l ++ numB y := ⟨_, rfl⟩
        rw [← hz_] at OU ⊢
        have GZ := Aside0.mk hz_
        clear hz_
        go_wp2_with (fail)
        go_roundw
        case rel => exact ⟨k + 1, A', c', z1, rfl, (by first | rfl | exact congrArg (Value.int .i64) (by omega)), ⟨HT.out⟩, ⟨by rw [GZ.out, flat_take HT.out, HYK.out, HLE.out]⟩, OU, HB, P1, PL⟩
        case measure =>
          (try rw [hwk])
          show 14 - ((k : Int) + 1).toNat < 14 - (k : Int).toNat
          have := HDL.out
          have := HT.out
          omega
      · have h14 : ¬ k < 14 := by have := HDL.out; omega
        have hdl : decide (k < 14) = false := decide_eq_false h14
        have hdm : decide ((k : Int) < 14) = false := decide_eq_false (by omega)
        obtain rfl : hd.length = k := by have := HK0.out; omega
        rw [List.take_length] at HLE
        clear hlt h14 PL
        go_upto_region 9 with (fail)
        clear hdl hdm
        have hc_ := (blk_cell P1.out 14).trans (show _ = some (.string tx) from rfl)
        have kB := fun W => print_bytes (P := Try.prog) 9 37 5 Try.underlying9 Try.underlying37 Try.underlying5 tx W
        have hb := bytes_below (Below.refl wr.heap.size wr) (Nat.le_refl _) 5 tx
        have P1 := kb P1 (hb)
        have OU := Aside0.mk (Kd.R_below OU.out (hb))
        have HB := Aside0.mk (below_step HB.out (hb))
        clear hb
        have RB := Aside0.mk (bytes_reads wr 5 tx (by have := OT.out; omega))
        obtain ⟨l3, hl_⟩ : ∃ y : List Int, y = l ++ bytesOf tx := ⟨_, rfl⟩
        have G3 := Aside0.mk hl_
        have N3 := Aside0.mk (show l3.length ≤ 150 by rw [hl_, List.length_append, bytesOf_length]; have := NL.out; have := OT.out; omega)
        clear hl_
        go_wp2_with (((with_reducible refine gate_builtin (b := .append) (xs := #[.tmp 61, .tmp 65]) rfl ?_); at_builtin; refine print_append_row (w0 := w) w.heap.size rfl (.tmp 61) (.tmp 65) 37 5 .u8 1 rfl Try.underlying37 info5 (by omega) (.slice A l.length c0) l (bytesOf tx) (some ⟨wr.heap.size, 0, none⟩) tx.size _ rfl rfl (Kd.own_of_R OU.out) RB.out HB.out HB.out.size (by have := NL.out; have := OT.out; omega) ?_; intro va W9 ho hb hg hat; rw [← G3.out] at ho; have OX := Aside0.mk (show Kd.R (Kd.int .u8) 5 W9 w.heap.size (fun _ => True) va l3 from Kd.R_of_own ho (fun _ _ => trivial)); have hk := KT.grown (KT.refl _) OU.out hg; have HB := Aside0.mk hb; have OU := OX; clear OX ho hb hg hat; obtain ⟨An, cn, e0⟩ := Kd.R_slice OU.out; subst e0; have P1 := Aside0.mk (hk.2 _ _ _ _ P1.out (by decide) (by decide)); clear hk))
        clear hc_ kB RB
        have P1 := kbd P1
        have OU := Aside0.mk (Kd.R_drew OU.out)
        have HB := Aside0.mk (below_drew1 HB.out)
        have HSS := (show (W9.drew).cell? ⟨b1, 7, none⟩ = some (.slice A7 ls.length c7) ∧ (W9.drew).cell? ⟨b1, 10, none⟩ = some (.slice A10 lv.length c10) ∧ True from ⟨(blk_cell P1.out 7).trans rfl, (blk_cell P1.out 10).trans rfl, trivial⟩)
        refine start_ (n := 8) (S := fun w' => w'.cell? ⟨b1, 7, none⟩ = some (.slice A7 ls.length c7) ∧ w'.cell? ⟨b1, 10, none⟩ = some (.slice A10 lv.length c10) ∧ True) (ds := []) (bt_ 8 0) (by kernel_rfl) rfl rfl HSS (fun hHeld => ?_)
        clear HSS
        generalize W9.drew = W10 at P1 OU HB hHeld ⊢
        refine pu_ 0 (some 67) (bt_ 8 1) (by kernel_rfl) ?_
        refine pu_ 1 (some 68) (bt_ 8 3) (by kernel_rfl) ?_
        refine tk_ 2 (some 69) (bt_ 8 7) (by kernel_rfl) hHeld ?_
        refine pu_ 4 (some 71) (bt_ 8 23) (by kernel_rfl) ?_
        refine tk_ 5 (some 72) (bt_ 8 55) (by kernel_rfl) hHeld ?_
        clear hHeld
        refine one_ (i := 3) (N := some 70) (bt_ 8 63) rfl rfl (by kernel_rfl) (by decide) (fun K hK => ?_)
        refine goes_ Try.func44 (by kernel_rfl) rfl #[.slice An l3.length cn, .slice A7 ls.length c7] (by rfl) rfl rfl (by simp only [List.map_toArray, List.map_cons, List.map_nil]; rfl) ?_
        refine (numsS An cn l3 A7 c7 ls w W10 OU.out HB.out HR7.out HC7.out (by have := N3.out; omega) (by have := HL.out; omega) O7.out).mono ?_
        rintro e W11 ⟨Ap, cp, rfl, hr_, hb_', hk⟩
        refine ⟨_, rfl, ?_⟩
        have OU := Aside0.mk hr_
        have HB := Aside0.mk hb_'
        clear hr_ hb_'
        have P1 := Aside0.mk (hk.2 _ _ _ _ P1.out (by decide) (by decide))
        clear hk
        obtain ⟨l4, hl_⟩ : ∃ y : List Int, y = l3 ++ (numB ls.length ++ ls.flatMap numB) := ⟨_, rfl⟩
        rw [← hl_] at OU ⊢
        have G4 := Aside0.mk hl_
        have N4 := Aside0.mk (show l4.length ≤ 10000000 by
          rw [hl_, List.length_append]
          rw [List.length_append]
          have h1 := numB_len (n := (ls.length : Int)) (by have := HL.out; omega)
          have h2 := flat_len O7.out
          have := N3.out
          have := HL.out
          omega)
        clear hl_
        refine hK.out _ _ ⟨(blk_cell P1.out 7).trans rfl, (blk_cell P1.out 10).trans rfl, trivial⟩ (fun hHeld => ?_)
        clear hK K
        refine norm_ (a' := ?_) ?_ ?_
        rotate_left
        · show Act.put _ (some 70) _ = _
          simp only [Act.put, List.setIfInBounds_toArray, List.set_cons_zero, List.set_cons_succ, i64_w, i32_w]
          rfl
        clear hHeld
        refine one_ (i := 6) (N := some 73) (bt_ 8 127) rfl rfl (by kernel_rfl) (by decide) (fun K hK => ?_)
        refine goes_ Try.func44 (by kernel_rfl) rfl #[.slice Ap l4.length cp, .slice A10 lv.length c10] (by rfl) rfl rfl (by simp only [List.map_toArray, List.map_cons, List.map_nil]; rfl) ?_
        refine (numsS Ap cp l4 A10 c10 lv w W11 OU.out HB.out HR10.out HC10.out (by have := N4.out; omega) (by have := HL.out; omega) O10.out).mono ?_
        rintro e W12 ⟨Aq, cq, rfl, hr_, hb_', hk⟩
        refine ⟨_, rfl, ?_⟩
        have OU := Aside0.mk hr_
        have HB := Aside0.mk hb_'
        clear hr_ hb_'
        have P1 := Aside0.mk (hk.2 _ _ _ _ P1.out (by decide) (by decide))
        clear hk
        obtain ⟨l5, hl_⟩ : ∃ y : List Int, y = l4 ++ (numB lv.length ++ lv.flatMap numB) := ⟨_, rfl⟩
        rw [← hl_] at OU ⊢
        have G5 := Aside0.mk hl_
        have N5 := Aside0.mk (show l5.length ≤ 20000000 by
          rw [hl_, List.length_append]
          rw [List.length_append]
          have h1 := numB_len (n := (lv.length : Int)) (by have := HL.out; omega)
          have h2 := flat_len O10.out
          have := N4.out
          have := HL.out
          omega)
        clear hl_
        refine hK.out _ _ ⟨(blk_cell P1.out 7).trans rfl, (blk_cell P1.out 10).trans rfl, trivial⟩ (fun hHeld => ?_)
        clear hK K
        refine norm_ (a' := ?_) ?_ ?_
        rotate_left
        · show Act.put _ (some 73) _ = _
          simp only [Act.put, List.setIfInBounds_toArray, List.set_cons_zero, List.set_cons_succ, i64_w, i32_w]
          rfl
        clear hHeld
        refine pu_ 7 (some 3) (bt_ 8 255) (by kernel_rfl) ?_
        refine done_ (by kernel_rfl) ?_
        have hc8 := (blk_cell P1.out 8).trans (show _ = some (.slice A8 lp.length c8) from rfl)
        go_wp2_with (fail)
        clear hc8
        refine (numS Aq cq l5 (lp.length : Int) w W12 OU.out HB.out (by have := N5.out; omega) (by have := HL.out; unfold okN; omega)).mono ?_
        rintro e W13 ⟨Ar, cr, rfl, hr_, hb_', hk⟩
        have OU := Aside0.mk hr_
        have HB := Aside0.mk hb_'
        clear hr_ hb_'
        have P1 := Aside0.mk (hk.2 _ _ _ _ P1.out (by decide) (by decide))
        clear hk
        obtain ⟨l6, hl_⟩ : ∃ y : List Int, y = l5 ++ numB lp.length := ⟨_, rfl⟩
        rw [← hl_] at OU ⊢
        have G6 := Aside0.mk hl_
        have N6 := Aside0.mk (show l6.length ≤ 20000010 by
          rw [hl_, List.length_append]
          have := numB_len (n := (lp.length : Int)) (by have := HL.out; omega)
          have := N5.out
          omega)
        clear hl_
        go_wp2_with (fail)
        go_loopw [3, 6] (fun v3 i wr => ∃ (k : Nat) (A : Option Addr) (c : Nat) (z : List Int), v3 = .slice A z.length c ∧ i = .int .i64 (k : Int) ∧ Aside0 (k ≤ lp.length) ∧ Aside0 (z = l6 ++ pairL (lp.take k)) ∧ Aside0 (Kd.R (Kd.int .u8) 5 wr w.heap.size (fun _ => True) (.slice A z.length c) z) ∧ Aside0 (Below w.heap.size w wr) ∧ Aside0 (wr.heap[b1]? = some (.cells #[.int .i64 n0, .int .i64 n1, .int .i64 n2, .int .i64 n3, .int .i64 n4, .int .i64 n5, .bool yes, .slice A7 ls.length c7, .slice A8 lp.length c8, .int .i64 n9, .slice A10 lv.length c10, .int .i64 m0, .int .i64 m1, .int .i64 m2, .string tx, .int .i64 m4, .int .i64 m5] 33 (0, 0)))) (fun _ i _ => lp.length - (intOf i).toNat)
        case atStart => exact ⟨0, Ar, cr, l6, rfl, rfl, ⟨Nat.zero_le _⟩, ⟨by rw [List.take_zero]; show l6 = l6 ++ []; rw [List.append_nil]⟩, OU, HB, P1⟩
        case round =>
          clear OU HB P1
          obtain ⟨k, A, c0, z, rfl, rfl, HK0, HLE2, OU, HB, P1⟩ := hrel
          obtain ⟨WR, e_⟩ : ∃ X, X = wr := ⟨_, rfl⟩
          subst e_
          have NZ := Aside0.mk (show z.length ≤ 40000000 by
            rw [HLE2.out, List.length_append]
            have := pairL_len (l := lp.take k) (fun q hq => O8.out q (List.mem_of_mem_take hq))
            rw [List.length_take] at this
            have := N6.out
            have := HL.out
            omega)
          by_cases hlt : k < lp.length
          · have HT := Aside0.mk hlt
            have hdl : decide (k < lp.length) = true := decide_eq_true hlt
            have hwk : wrap64 ((k : Int) + 1) = (k : Int) + 1 := by unfold wrap64; have := HL.out; omega
            obtain ⟨ad, hA, y0, y1⟩ := at_T68 (Kd.C_below HR8.out HB.out) (k : Int) (by omega) (by omega)
            obtain ⟨ad8, e8_⟩ : ∃ X, X = ad := ⟨_, rfl⟩
            subst e8_
            subst hA
            simp only [Int.toNat_natCast] at y0 y1
            have hrd : rd_T68 lp (k : Int) = lp[k]'hlt := rd68_lt hlt
            rw [hrd] at y0 y1
            have HE := Aside0.mk (O8.out _ (List.getElem_mem hlt))
            generalize hy_ : lp[k]'hlt = y at y0 y1 HE
            have HYK := Aside0.mk hy_
            clear hrd hy_
            have hlt1 : (k : Int) < (lp.length : Int) := by omega
            have hc8_ := (blk_cell P1.out 8).trans (show _ = some (.slice (some ad8) lp.length c8) from rfl)
            go_wp2_with (fail)
            clear hc8_
            have P1 := kbd P1
            have OU := Aside0.mk (Kd.R_drew OU.out)
            have HB := Aside0.mk (below_drew1 HB.out)
            have HSS := (show (WR.drew).cell? ⟨b1, 8, none⟩ = some (.slice (some ad8) lp.length c8) ∧ (WR.drew).cell? (ad8.add (k * 2)) = some (.int .i64 y.f0) ∧ (WR.drew).cell? ⟨(ad8.add (k * 2)).block, (ad8.add (k * 2)).off + 1, none⟩ = some (.int .i64 y.f1) ∧ True from ⟨(blk_cell P1.out 8).trans rfl, y0, y1, trivial⟩)
            refine start_ (n := 16) (S := fun w' => w'.cell? ⟨b1, 8, none⟩ = some (.slice (some ad8) lp.length c8) ∧ w'.cell? (ad8.add (k * 2)) = some (.int .i64 y.f0) ∧ w'.cell? ⟨(ad8.add (k * 2)).block, (ad8.add (k * 2)).off + 1, none⟩ = some (.int .i64 y.f1) ∧ True) (ds := []) (bt_ 16 0) (by kernel_rfl) rfl rfl HSS (fun hHeld => ?_)
            clear HSS y0 y1
            generalize WR.drew = W14 at P1 OU HB hHeld ⊢
            refine pu_ 0 (some 86) (bt_ 16 1) (by kernel_rfl) ?_
            refine pu_ 1 (some 87) (bt_ 16 3) (by kernel_rfl) ?_
            refine tk_ 2 (some 88) (bt_ 16 7) (by kernel_rfl) hHeld ?_
            refine pu_ 3 (some 89) (bt_ 16 15) (by kernel_rfl) ?_
            refine pu_ 4 (some 90) (bt_ 16 31) (by kernel_rfl) ?_
            refine pu_ 5 (some 91) (bt_ 16 63) (by kernel_rfl) ?_
            refine tk_ 6 (some 92) (bt_ 16 127) (by kernel_rfl) hHeld ?_
            refine pu_ 8 (some 94) (bt_ 16 383) (by kernel_rfl) ?_
            refine tk_ 9 (some 95) (bt_ 16 895) (by kernel_rfl) hHeld ?_
            refine pu_ 10 (some 96) (bt_ 16 1919) (by kernel_rfl) ?_
            refine pu_ 11 (some 97) (bt_ 16 3967) (by kernel_rfl) ?_
            refine pu_ 12 (some 98) (bt_ 16 8063) (by kernel_rfl) ?_
            refine tk_ 13 (some 99) (bt_ 16 16255) (by kernel_rfl) hHeld ?_
            clear hHeld
            refine one_ (i := 7) (N := some 93) (bt_ 16 16383) rfl rfl (by kernel_rfl) (by decide) (fun K hK => ?_)
            refine goes_ Try.func43 (by kernel_rfl) rfl #[.slice A z.length c0, .int .i64 y.f0] (by rfl) rfl rfl (by simp only [List.map_toArray, List.map_cons, List.map_nil]; rfl) ?_
            refine (numS A c0 z y.f0 w W14 OU.out HB.out (by have := NZ.out; (try have := NZ2.out); omega) HE.out.1).mono ?_
            rintro e W15 ⟨Aa, ca, rfl, hr_, hb_', hk⟩
            refine ⟨_, rfl, ?_⟩
            have OU := Aside0.mk hr_
            have HB := Aside0.mk hb_'
            clear hr_ hb_'
            have P1 := Aside0.mk (hk.2 _ _ _ _ P1.out (by decide) (by decide))
            clear hk
            obtain ⟨z1, hz_⟩ : ∃ q : List Int, q = z ++ numB y.f0 := ⟨_, rfl⟩
            rw [← hz_] at OU ⊢
            have GZ := Aside0.mk hz_
            have NZ2 := Aside0.mk (show z1.length ≤ 40000010 by rw [hz_, List.length_append]; have := numB_len HE.out.1; have := NZ.out; omega)
            clear hz_
            obtain ⟨ad', hA', y0, y1⟩ := at_T68 (Kd.C_below HR8.out HB.out) (k : Int) (by have := HT.out; omega) (by have := HT.out; omega)
            obtain rfl : ad8 = ad' := Option.some.inj hA'
            clear hA'
            simp only [Int.toNat_natCast] at y0 y1
            rw [show rd_T68 lp (k : Int) = lp[k]'HT.out from rd68_lt HT.out, HYK.out] at y0 y1
            refine hK.out _ _ ⟨(blk_cell P1.out 8).trans rfl, y0, y1, trivial⟩ (fun hHeld => ?_)
            clear hK K
            refine norm_ (a' := ?_) ?_ ?_
            rotate_left
            · show Act.put _ (some 93) _ = _
              simp only [Act.put, List.setIfInBounds_toArray, List.set_cons_zero, List.set_cons_succ, i64_w, i32_w]
              rfl
            clear hHeld y0 y1
            refine one_ (i := 14) (N := some 100) (bt_ 16 32767) rfl rfl (by kernel_rfl) (by decide) (fun K hK => ?_)
            refine goes_ Try.func43 (by kernel_rfl) rfl #[.slice Aa z1.length ca, .int .i64 y.f1] (by rfl) rfl rfl (by simp only [List.map_toArray, List.map_cons, List.map_nil]; rfl) ?_
            refine (numS Aa ca z1 y.f1 w W15 OU.out HB.out (by have := NZ.out; (try have := NZ2.out); omega) HE.out.2).mono ?_
            rintro e W16 ⟨Ab, cb, rfl, hr_, hb_', hk⟩
            refine ⟨_, rfl, ?_⟩
            have OU := Aside0.mk hr_
            have HB := Aside0.mk hb_'
            clear hr_ hb_'
            have P1 := Aside0.mk (hk.2 _ _ _ _ P1.out (by decide) (by decide))
            clear hk
            obtain ⟨z2, hz_⟩ : ∃ q : List Int, q = z1 ++ numB y.f1 := ⟨_, rfl⟩
            rw [← hz_] at OU ⊢
            have GZ2 := Aside0.mk hz_
            clear hz_
            obtain ⟨ad', hA', y0, y1⟩ := at_T68 (Kd.C_below HR8.out HB.out) (k : Int) (by have := HT.out; omega) (by have := HT.out; omega)
            obtain rfl : ad8 = ad' := Option.some.inj hA'
            clear hA'
            simp only [Int.toNat_natCast] at y0 y1
            rw [show rd_T68 lp (k : Int) = lp[k]'HT.out from rd68_lt HT.out, HYK.out] at y0 y1
            refine hK.out _ _ ⟨(blk_cell P1.out 8).trans rfl, y0, y1, trivial⟩ (fun hHeld => ?_)
            clear hK K
            refine norm_ (a' := ?_) ?_ ?_
            rotate_left
            · show Act.put _ (some 100) _ = _
              simp only [Act.put, List.setIfInBounds_toArray, List.set_cons_zero, List.set_cons_succ, i64_w, i32_w]
              rfl
            clear hHeld y0 y1
            refine pu_ 15 (some 3) (bt_ 16 65535) (by kernel_rfl) ?_
            refine done_ (by kernel_rfl) ?_
            go_wp2_with (fail)
            go_roundw
            case rel => exact ⟨k + 1, Ab, cb, z2, rfl, (by first | rfl | exact congrArg (Value.int .i64) (by omega)), ⟨HT.out⟩, ⟨by rw [GZ2.out, GZ.out, HLE2.out, pairL_take HT.out, HYK.out, List.append_assoc, List.append_assoc]⟩, OU, HB, P1⟩
            case measure =>
              (try rw [hwk])
              show lp.length - ((k : Int) + 1).toNat < lp.length - (k : Int).toNat
              have := HT.out
              omega
          · have hdl : decide (k < lp.length) = false := decide_eq_false hlt
            obtain rfl : lp.length = k := by have := HK0.out; omega
            clear hlt
            rw [List.take_length] at HLE2
            have E : z = out := by
              rw [HLE2.out, HOUT.out]
              simp only [if_true]
              rw [G6.out, G5.out, G4.out, G3.out, HLE.out, HHD.out, HY.out]
              unfold packL
              simp only [List.flatMap_cons, List.flatMap_nil, List.append_nil, List.append_assoc]
            subst E
            have hc8 := (blk_cell P1.out 8).trans (show _ = some (.slice A8 lp.length c8) from rfl)
            go_wp2_with (fail)
            go_ret
            exact ⟨A, c0, rfl, OU.out, HB.out⟩
end Go.Proofs.Ytbjdnfgalopfiaa.PE
