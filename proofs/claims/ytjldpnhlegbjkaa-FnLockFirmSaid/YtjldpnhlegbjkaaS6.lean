/- What spec.LockAsk comes to. -/
import Derived.Test.YtjldpnhlegbjkaaS3
import Derived.Test.YtjldpnhlegbjkaaS5
namespace Go.Proofs.Ytjldpnhlegbjkaa.PA
open Go.RowKit Go.Proofs.YtjldpnhlegbjkaaW.PrintWords Go.Proofs.YtjldpnhlegbjkaaW.PrintLast Go.Proofs.YtjldpnhlegbjkaaW.PrintMore Go.Proofs.Ytjldpnhlegbjkaa.PB
attribute [local go_sem] max2_int min2_int max_two min_two max_three min_three max_four min_four
set_option linter.unusedVariables false
set_option linter.unusedSimpArgs false
set_option maxHeartbeats 8000000 in
set_option maxRecDepth 100000 in
theorem sask_calls (s : Int) (A1 : Option Addr) (c1 : Nat) (l1 : List S45) (A2 : Option Addr) (c2 : Nat) (l2 : List S45) (x : S45) (r1 : Int) (r2 r3 : List S45) (r4 : Bool) (r5 : List S45) (w : World)
    (hr1 : Kd.C k45 w A1 l1.length l1) (hc1 : l1.length ≤ c1) (hr2 : Kd.C k45 w A2 l2.length l2) (hc2 : l2.length ≤ c2) (hl1 : l1.length ≤ 1048576) (hl2 : l2.length ≤ 1048576) (h : askF s l1 l2 x = (r1, r2, r3, r4, r5)) :
    Calls Try.prog 29 #[.agg #[.int .i64 s, .slice A1 l1.length c1, .slice A2 l2.length c2], .agg #[.int .i64 x.f0, .int .i64 x.f1, .bool x.f2, .bool x.f3]] w fun e w' => ∃ v1 v2 v3 : Value, e = .returned (.tuple #[.agg #[.int .i64 r1, v1, v2], .bool r4, v3]) ∧
      Kd.R k45 45 w' w.heap.size (fun k => some k ≠ v2.ownBlock ∧ some k ≠ v3.ownBlock) v1 r2 ∧ Kd.R k45 45 w' w.heap.size (fun k => some k ≠ v1.ownBlock ∧ some k ≠ v3.ownBlock) v2 r3 ∧ Kd.R k45 45 w' w.heap.size (fun k => some k ≠ v1.ownBlock ∧ some k ≠ v2.ownBlock) v3 r5 ∧ Below w.heap.size w w' := by
  have hu29 := Try.underlying29
  have hu45 := Try.underlying45
  have HR1 := Aside0.mk hr1
  have HC1 := Aside0.mk hc1
  have HR2 := Aside0.mk hr2
  have HC2 := Aside0.mk hc2
  have HL1 := Aside0.mk hl1
  have HL2 := Aside0.mk hl2
  have HCO := Aside0.mk (copy_eq s l1 l2 hl1 hl2)
  have HH := Aside0.mk h
  clear hr1 hc1 hr2 hc2 hl1 hl2 h
  have HB := Aside0.mk (below_alloc (below_alloc (below_alloc (Below.refl w.heap.size w) (.cells #[.int .i64 s, .slice A1 l1.length c1, .slice A2 l2.length c2] 29 (0, 0))) (.cells #[.int .i64 x.f0, .int .i64 x.f1, .bool x.f2, .bool x.f3] 45 (0, 0))) (.cells #[.int .i64 0, .slice none 0 0, .slice none 0 0] 29 (0, 0)))
  have P2 := Aside0.mk (blk_alloc (blk_alloc (blk_new (w) (.cells #[.int .i64 s, .slice A1 l1.length c1, .slice A2 l2.length c2] 29 (0, 0))) (.cells #[.int .i64 x.f0, .int .i64 x.f1, .bool x.f2, .bool x.f3] 45 (0, 0))) (.cells #[.int .i64 0, .slice none 0 0, .slice none 0 0] 29 (0, 0)))
  have P3 := Aside0.mk (blk_alloc (blk_new ((w).alloc (.cells #[.int .i64 s, .slice A1 l1.length c1, .slice A2 l2.length c2] 29 (0, 0))) (.cells #[.int .i64 x.f0, .int .i64 x.f1, .bool x.f2, .bool x.f3] 45 (0, 0))) (.cells #[.int .i64 0, .slice none 0 0, .slice none 0 0] 29 (0, 0)))
  have P4 := Aside0.mk (blk_new (((w).alloc (.cells #[.int .i64 s, .slice A1 l1.length c1, .slice A2 l2.length c2] 29 (0, 0))).alloc (.cells #[.int .i64 x.f0, .int .i64 x.f1, .bool x.f2, .bool x.f3] 45 (0, 0))) (.cells #[.int .i64 0, .slice none 0 0, .slice none 0 0] 29 (0, 0)))
  have hs_ : ((w).alloc (.cells #[.int .i64 s, .slice A1 l1.length c1, .slice A2 l2.length c2] 29 (0, 0))).heap.size = w.heap.size + 1 := by simp
  rw [hs_] at P3
  clear hs_
  have hs_ : (((w).alloc (.cells #[.int .i64 s, .slice A1 l1.length c1, .slice A2 l2.length c2] 29 (0, 0))).alloc (.cells #[.int .i64 x.f0, .int .i64 x.f1, .bool x.f2, .bool x.f3] 45 (0, 0))).heap.size = w.heap.size + 1 + 1 := by simp
  rw [hs_] at P4
  clear hs_
  go_enter Try.func29, Try.ntmps29
  go_upto_region 1 with (fail)
  generalize (((w).alloc (.cells #[.int .i64 s, .slice A1 l1.length c1, .slice A2 l2.length c2] 29 (0, 0))).alloc (.cells #[.int .i64 x.f0, .int .i64 x.f1, .bool x.f2, .bool x.f3] 45 (0, 0))).alloc (.cells #[.int .i64 0, .slice none 0 0, .slice none 0 0] 29 (0, 0)) = W1 at HB P2 P3 P4 ⊢
  obtain ⟨b4, hb4⟩ : ∃ b4, b4 = w.heap.size + 1 + 1 := ⟨_, rfl⟩
  obtain ⟨b3, hb3⟩ : ∃ b3, b3 = w.heap.size + 1 := ⟨_, rfl⟩
  rw [← hb4] at P4 ⊢
  rw [← hb3] at P3 ⊢
  have G := Aside0.mk (show w.heap.size < b3 ∧ b3 < b4 by omega)
  have G4 := Aside0.mk (blk_lt P4.out)
  clear hb3 hb4
  go_upto_region 2 with (((with_reducible refine gate_dst (N := 15) rfl ?_); refine Kd.R_lit k45 _ 45 ?hg (N := 15) ?hd (xs := ([] : List (S45))) (inner := []) (ok := fun _ => True) (okp := fun _ => True) ?hr ?hp (fun _ hk => hk) trivial (Below.refl _ _) (Nat.le_refl _) (by simp) ?_; (case hd => rfl); (case hg => rfl); (case hr => first | (go_simp; done) | (go_simp; rfl)); (case hp => exact (Reps.none _ _)); intro vn Wvn qg hb hg_ hnew_; clear hg_ hnew_; have QN := Aside0.mk qg; have HBn := Aside0.mk hb; clear qg hb))
  have hb := HBn.out
  have RN := Aside0.mk (Rw.of QN.out HB.out.size)
  have NN4 : Aside0 ((vn : Value).ownBlock ≠ some b4) := ⟨fun e => by have := RN.out.at_ e; have := G4.out; omega⟩
  have Z1 := Aside0.mk hb.size
  clear HBn QN
  generalize Wvn = W2 at RN hb Z1 ⊢
  have P2 := Aside0.mk (blk_below P2.out hb)
  have P3 := Aside0.mk (blk_below P3.out hb)
  have P4 := Aside0.mk (blk_below P4.out hb)
  have HB := Aside0.mk (below_step HB.out hb)
  clear hb
  go_wp2_with (((with_reducible refine gate_dst (N := 16) rfl ?_); refine wpList_load_row rfl 29 (.tmp 2) rfl w.heap.size rfl 29 #[.int .i64 s, .slice A1 l1.length c1, .slice A2 l2.length c2] (0, 0) _ P2.out hu29 rfl (by kernel_rfl) ?_))
  refine (okH s A1 c1 l1 A2 c2 l2 W2 (Kd.C_below HR1.out HB.out) HC1.out (Kd.C_below HR2.out HB.out) HC2.out HL1.out HL2.out).mono ?_
  rintro e W3 ⟨rfl, hb⟩
  have Z2 := Aside0.mk hb.size
  have P2 := Aside0.mk (blk_below P2.out hb)
  have P3 := Aside0.mk (blk_below P3.out hb)
  have P4 := Aside0.mk (blk_below P4.out hb)
  have RN := Aside0.mk (Rw.below RN.out hb)
  have HB := Aside0.mk (below_step HB.out hb)
  clear hb
  cases hok : lockB s l1 l2 with
  | false =>
    have hh := HH.out
    unfold askF at hh
    rw [if_pos hok] at hh
    simp only [Prod.mk.injEq] at hh
    obtain ⟨rfl, rfl, rfl, rfl, rfl⟩ := hh
    clear hok
    go_wp2_with (((with_reducible refine gate_store (t := 29) (p := 4) rfl ?_); (refine wpList_store_row rfl 29 (.tmp 4) (.tmp 19) rfl b4 #[.int .i64 0, .slice none 0 0, .slice none 0 0] rfl rfl 29 #[.int .i64 0, .slice none 0 0, .slice none 0 0] P4.out (by kernel_rfl) rfl (by simp [Value.oneCell']) ?_; have P4 := Aside0.mk (setRow_heap W3 b4 _ #[.int .i64 0, .slice none 0 0, .slice none 0 0] 29 (0, 0) P4.out); have HS := Aside0.mk (below_setRow' (Below.refl b4 W3) (Nat.le_refl b4) #[.int .i64 0, .slice none 0 0, .slice none 0 0]); have RN := Aside0.mk (Rw.row_ne RN.out #[.int .i64 0, .slice none 0 0, .slice none 0 0] (b := b4) NN4.out); generalize W3.setRow b4 #[.int .i64 0, .slice none 0 0, .slice none 0 0] = W4 at P4 HS RN ⊢; refine Aside0.out ?_)))
    refine Aside0.mk ?_
    iterate 12 (try go_step)
    refine bodyPost_ret (results_ctt rfl _ _ b4 29 #[.int .i64 0, .slice none 0 0, .slice none 0 0] (0, 0) _ rfl P4.out hu29 rfl (by kernel_rfl)) rfl ?_
    exact ⟨_, _, _, rfl, Kd.R_nil _ _ _ _ _, Kd.R_nil _ _ _ _ _, Rw.own_ RN.out (fun k hk => ⟨by simp [Value.ownBlock], by simp [Value.ownBlock]⟩), HB.out.trans (HS.out.mono (by have := G.out; omega))⟩
  | true =>
    obtain ⟨ha1, ha2, hq1, hq2⟩ := lock_asc hok
    have HA1 := Aside0.mk ha1
    have HA2 := Aside0.mk ha2
    have HQ := Aside0.mk (And.intro hq1 hq2)
    have HOK := Aside0.mk hok
    clear ha1 ha2 hq1 hq2 hok
    go_wp2_with (((with_reducible refine gate_dst (N := 21) rfl ?_); refine wpList_load_row rfl 29 (.tmp 2) rfl w.heap.size rfl 29 #[.int .i64 s, .slice A1 l1.length c1, .slice A2 l2.length c2] (0, 0) _ P2.out hu29 rfl (by kernel_rfl) ?_))
    refine (spec_l11Copy.calls s A1 c1 l1 A2 c2 l2 s l1 l2 W3 (Kd.C_below HR1.out HB.out) HC1.out (Kd.C_below HR2.out HB.out) HC2.out HCO.out).mono ?_
    rintro e W4 ⟨v1, v2, rfl, q1, q2, hb⟩
    obtain ⟨D1, d1, e0⟩ := Kd.R_slice q1
    subst e0
    obtain ⟨D2, d2, e0⟩ := Kd.R_slice q2
    subst e0
    have SD := Aside0.mk (show ∀ k, (Value.slice D1 l1.length d1).ownBlock = some k → (Value.slice D2 l2.length d2).ownBlock ≠ some k from fun k hk e => (q1.1 k hk) e.symm)
    have q1 := Rw.of q1 HB.out.size
    have q2 := Rw.of q2 HB.out.size
    have Z3 := Aside0.mk hb.size
    have P2 := Aside0.mk (blk_below P2.out hb)
    have P3 := Aside0.mk (blk_below P3.out hb)
    have P4 := Aside0.mk (blk_below P4.out hb)
    have RN := Aside0.mk (Rw.below RN.out hb)
    have HB := Aside0.mk (below_step HB.out hb)
    clear hb
    have RD1 := Aside0.mk q1
    have RD2 := Aside0.mk q2
    clear q1 q2
    have P3a := Aside0.mk (blk_alloc P3.out (.cells #[.int .i64 s, .slice D1 l1.length d1, .slice D2 l2.length d2] 29 (0, 0)))
    go_wp2_with (((with_reducible refine gate_dst (N := 23) rfl ?_); refine wpList_load_row rfl 45 (.tmp 3) rfl b3 rfl 45 #[.int .i64 x.f0, .int .i64 x.f1, .bool x.f2, .bool x.f3] (0, 0) _ P3a.out hu45 rfl (by kernel_rfl) ?_))
    clear P3a
    have P8 := Aside0.mk (blk_new W4 (.cells #[.int .i64 s, .slice D1 l1.length d1, .slice D2 l2.length d2] 29 (0, 0)))
    have hb := below_alloc (Below.refl W4.heap.size W4) (.cells #[.int .i64 s, .slice D1 l1.length d1, .slice D2 l2.length d2] 29 (0, 0))
    have G8 := Aside0.mk (show b4 < W4.heap.size from blk_lt P4.out)
    have P2 := Aside0.mk (blk_below P2.out hb)
    have P3 := Aside0.mk (blk_below P3.out hb)
    have P4 := Aside0.mk (blk_below P4.out hb)
    have RN := Aside0.mk (Rw.below RN.out hb)
    have RD1 := Aside0.mk (Rw.below RD1.out hb)
    have RD2 := Aside0.mk (Rw.below RD2.out hb)
    have HB := Aside0.mk (below_step HB.out hb)
    clear hb
    have Z4 := Aside0.mk (blk_lt P8.out)
    generalize W4.alloc (.cells #[.int .i64 s, .slice D1 l1.length d1, .slice D2 l2.length d2] 29 (0, 0)) = W5 at P2 P3 P4 P8 HB Z4 RN RD1 RD2 ⊢
    obtain ⟨b8, hb8⟩ : ∃ b8, b8 = W4.heap.size := ⟨_, rfl⟩
    rw [← hb8] at P8 G8 Z4 ⊢
    have ZB8 := Aside0.mk hb8
    clear hb8
    have hn5 : b4 ≠ b8 := by have := G8.out; omega
    have hn6 : b8 ≠ b4 := by have := G8.out; omega
    have hn7 : b3 ≠ b8 := by have := G8.out; have := G.out; omega
    have hn8 : b8 ≠ b3 := by have := G8.out; have := G.out; omega
    refine (spec_l11HoldOk.calls x.f0 x.f1 x.f2 x.f3 (holdB x) W5 (shold_eq x)).mono ?_
    rintro e W6 ⟨rfl, hb⟩
    have P2 := Aside0.mk (blk_below P2.out hb)
    have P3 := Aside0.mk (blk_below P3.out hb)
    have P4 := Aside0.mk (blk_below P4.out hb)
    have P8 := Aside0.mk (blk_below P8.out hb)
    have RN := Aside0.mk (Rw.below RN.out hb)
    have RD1 := Aside0.mk (Rw.below RD1.out hb)
    have RD2 := Aside0.mk (Rw.below RD2.out hb)
    have HB := Aside0.mk (below_step HB.out hb)
    clear hb
    cases hho : holdB x with
    | false =>
      have hh := HH.out
      unfold askF at hh
      rw [if_neg (show ¬ (lockB s l1 l2 = false) by rw [HOK.out]; exact Bool.noConfusion), if_pos (Or.inl hho)] at hh
      simp only [Prod.mk.injEq] at hh
      obtain ⟨rfl, rfl, rfl, rfl, rfl⟩ := hh
      go_wp2_with (first | ((with_reducible refine gate_dst (N := 30) rfl ?_); refine wpList_load_row rfl 29 (.tmp 8) rfl b8 rfl 29 #[.int .i64 s, .slice D1 l1.length d1, .slice D2 l2.length d2] (0, 0) _ P8.out hu29 rfl (by kernel_rfl) ?_) | ((with_reducible refine gate_store (t := 29) (p := 4) rfl ?_); (refine wpList_store_row rfl 29 (.tmp 4) (.tmp 30) rfl b4 #[.int .i64 s, .slice D1 l1.length d1, .slice D2 l2.length d2] rfl rfl 29 #[.int .i64 0, .slice none 0 0, .slice none 0 0] P4.out (by kernel_rfl) rfl (by simp [Value.oneCell']) ?_; have P4 := Aside0.mk (setRow_heap W6 b4 _ #[.int .i64 s, .slice D1 l1.length d1, .slice D2 l2.length d2] 29 (0, 0) P4.out); have HS := Aside0.mk (below_setRow' (Below.refl b4 W6) (Nat.le_refl b4) #[.int .i64 s, .slice D1 l1.length d1, .slice D2 l2.length d2]); have RN := Aside0.mk (Rw.row_ne RN.out #[.int .i64 s, .slice D1 l1.length d1, .slice D2 l2.length d2] (b := b4) NN4.out); have RD1 := Aside0.mk (Rw.row_ne RD1.out #[.int .i64 s, .slice D1 l1.length d1, .slice D2 l2.length d2] (b := b4) (fun e => by have := RD1.out.at_ e; have := G4.out; have := Z1.out; have := Z2.out; omega)); have RD2 := Aside0.mk (Rw.row_ne RD2.out #[.int .i64 s, .slice D1 l1.length d1, .slice D2 l2.length d2] (b := b4) (fun e => by have := RD2.out.at_ e; have := G4.out; have := Z1.out; have := Z2.out; omega)); generalize W6.setRow b4 #[.int .i64 s, .slice D1 l1.length d1, .slice D2 l2.length d2] = W7 at P4 HS RN RD1 RD2 ⊢; refine Aside0.out ?_)))
      refine Aside0.mk ?_
      iterate 12 (try go_step)
      refine bodyPost_ret (results_ctt rfl _ _ b4 29 #[.int .i64 s, .slice D1 l1.length d1, .slice D2 l2.length d2] (0, 0) _ rfl P4.out hu29 rfl (by kernel_rfl)) rfl ?_
      exact ⟨_, _, _, rfl, Rw.own_ RD1.out (fun k hk => ⟨fun e => SD.out k hk e.symm, fun e => by have := RN.out.at_ e.symm; have := RD1.out.at_ hk; have := Z2.out; omega⟩), Rw.own_ RD2.out (fun k hk => ⟨fun e => SD.out k e.symm hk, fun e => by have := RN.out.at_ e.symm; have := RD2.out.at_ hk; have := Z2.out; omega⟩), Rw.own_ RN.out (fun k hk => ⟨fun e => by have := RN.out.at_ hk; have := RD1.out.at_ e.symm; have := Z2.out; omega, fun e => by have := RN.out.at_ hk; have := RD2.out.at_ e.symm; have := Z2.out; omega⟩), HB.out.trans (HS.out.mono (by have := G.out; omega))⟩
    | true =>
      have hx3 := (blk_cell P3.out 3).trans (show _ = some (.bool x.f3) from rfl)
      cases hf3 : x.f3 with
      | true =>
        rw [hf3] at hx3
        have hh := HH.out
        unfold askF at hh
        rw [if_neg (show ¬ (lockB s l1 l2 = false) by rw [HOK.out]; exact Bool.noConfusion), if_pos (Or.inr hf3)] at hh
        simp only [Prod.mk.injEq] at hh
        obtain ⟨rfl, rfl, rfl, rfl, rfl⟩ := hh
        go_wp2_with (first | ((with_reducible refine gate_dst (N := 30) rfl ?_); refine wpList_load_row rfl 29 (.tmp 8) rfl b8 rfl 29 #[.int .i64 s, .slice D1 l1.length d1, .slice D2 l2.length d2] (0, 0) _ P8.out hu29 rfl (by kernel_rfl) ?_) | ((with_reducible refine gate_store (t := 29) (p := 4) rfl ?_); (refine wpList_store_row rfl 29 (.tmp 4) (.tmp 30) rfl b4 #[.int .i64 s, .slice D1 l1.length d1, .slice D2 l2.length d2] rfl rfl 29 #[.int .i64 0, .slice none 0 0, .slice none 0 0] P4.out (by kernel_rfl) rfl (by simp [Value.oneCell']) ?_; have P4 := Aside0.mk (setRow_heap W6 b4 _ #[.int .i64 s, .slice D1 l1.length d1, .slice D2 l2.length d2] 29 (0, 0) P4.out); have HS := Aside0.mk (below_setRow' (Below.refl b4 W6) (Nat.le_refl b4) #[.int .i64 s, .slice D1 l1.length d1, .slice D2 l2.length d2]); have RN := Aside0.mk (Rw.row_ne RN.out #[.int .i64 s, .slice D1 l1.length d1, .slice D2 l2.length d2] (b := b4) NN4.out); have RD1 := Aside0.mk (Rw.row_ne RD1.out #[.int .i64 s, .slice D1 l1.length d1, .slice D2 l2.length d2] (b := b4) (fun e => by have := RD1.out.at_ e; have := G4.out; have := Z1.out; have := Z2.out; omega)); have RD2 := Aside0.mk (Rw.row_ne RD2.out #[.int .i64 s, .slice D1 l1.length d1, .slice D2 l2.length d2] (b := b4) (fun e => by have := RD2.out.at_ e; have := G4.out; have := Z1.out; have := Z2.out; omega)); generalize W6.setRow b4 #[.int .i64 s, .slice D1 l1.length d1, .slice D2 l2.length d2] = W7 at P4 HS RN RD1 RD2 ⊢; refine Aside0.out ?_)))
        refine Aside0.mk ?_
        iterate 12 (try go_step)
        refine bodyPost_ret (results_ctt rfl _ _ b4 29 #[.int .i64 s, .slice D1 l1.length d1, .slice D2 l2.length d2] (0, 0) _ rfl P4.out hu29 rfl (by kernel_rfl)) rfl ?_
        exact ⟨_, _, _, rfl, Rw.own_ RD1.out (fun k hk => ⟨fun e => SD.out k hk e.symm, fun e => by have := RN.out.at_ e.symm; have := RD1.out.at_ hk; have := Z2.out; omega⟩), Rw.own_ RD2.out (fun k hk => ⟨fun e => SD.out k e.symm hk, fun e => by have := RN.out.at_ e.symm; have := RD2.out.at_ hk; have := Z2.out; omega⟩), Rw.own_ RN.out (fun k hk => ⟨fun e => by have := RN.out.at_ hk; have := RD1.out.at_ e.symm; have := Z2.out; omega, fun e => by have := RN.out.at_ hk; have := RD2.out.at_ e.symm; have := Z2.out; omega⟩), HB.out.trans (HS.out.mono (by have := G.out; omega))⟩
      | false =>
        rw [hf3] at hx3
        have HHO := Aside0.mk hho
        have HF3 := Aside0.mk hf3
        clear hho hf3
        go_upto_if 29 with (fail)
        clear hx3
        refine wp_cond_false rfl ?_
        refine wp_skip ?_
        simp only [Exit.then]
        apply_assumption
        refine wp_seq_k (fun K7 hK7 => ?_)
        have HK7 := Aside0.mk hK7
        clear hK7
        have hd1 := (blk_cell P8.out 1).trans (show _ = some (.slice D1 l1.length d1) from rfl)
        have hx0 := (blk_cell P3.out 0).trans (show _ = some (.int .i64 x.f0) from rfl)
        go_wp2_with (fail)
        clear hd1 hx0
        obtain ⟨K1, k1⟩ := l11At_ev l1 x.f0 HL1.out HA1.out
        obtain ⟨t1, ht1⟩ : ∃ t1, t1 = (if hasOf l1 x.f0 = true then placeOf l1 x.f0 else -1) := ⟨_, rfl⟩
        rw [← ht1] at k1
        have kk := k1 K1 (Nat.le_refl _)
        clear k1
        refine (spec_l11At.calls K1 D1 d1 l1 x.f0 t1 W6 (RD1.out.reads).2.2 (RD1.out.reads).2.1 kk).mono ?_
        rintro e W7_ ⟨rfl, ⟨nd, rfl⟩⟩
        have hb := pw_below_drewN (Below.refl W6.heap.size W6) nd
        generalize W6.drewN nd = W7 at hb ⊢
        have HT1 := Aside0.mk ht1
        clear kk ht1
        have hb := hb
        have P2 := Aside0.mk (blk_below P2.out hb)
        have P3 := Aside0.mk (blk_below P3.out hb)
        have P4 := Aside0.mk (blk_below P4.out hb)
        have P8 := Aside0.mk (blk_below P8.out hb)
        have RN := Aside0.mk (Rw.below RN.out hb)
        have RD1 := Aside0.mk (Rw.below RD1.out hb)
        have RD2 := Aside0.mk (Rw.below RD2.out hb)
        have HB := Aside0.mk (below_step HB.out hb)
        clear hb
        go_wp2_with (fail)
        apply HK7.out
        clear HK7 K7
        refine wp_seq_k (fun K8 hK8 => ?_)
        go_cut [] from 10 (fun wx => Aside0 (wx.heap[w.heap.size]? = some (.cells #[.int .i64 s, .slice A1 l1.length c1, .slice A2 l2.length c2] 29 (0, 0))) ∧ Aside0 (wx.heap[b3]? = some (.cells #[.int .i64 x.f0, .int .i64 x.f1, .bool x.f2, .bool x.f3] 45 (0, 0))) ∧ Aside0 (wx.heap[b4]? = some (.cells #[.int .i64 0, .slice none 0 0, .slice none 0 0] 29 (0, 0))) ∧ Aside0 (wx.heap[b8]? = some (.cells #[.int .i64 s, .slice D1 l1.length d1, .slice D2 l2.length d2] 29 (0, 0))) ∧ Aside0 (Below w.heap.size w wx) ∧ Aside0 (Rw w.heap.size wx W1.heap.size W2.heap.size vn []) ∧ Aside0 (Rw w.heap.size wx W3.heap.size W4.heap.size (.slice D1 l1.length d1) l1) ∧ Aside0 (Rw w.heap.size wx W3.heap.size W4.heap.size (.slice D2 l2.length d2) l2) ∧ Aside0 (¬ (hasOf l1 x.f0 = true ∧ ((rd_T45 l1 (placeN l1 x : Nat)).f3 = true ∨ x.f1 ≤ (rd_T45 l1 (placeN l1 x : Nat)).f1))))
        case first =>
          cases hh1 : hasOf l1 x.f0 with
          | false =>
            obtain rfl : t1 = -1 := by rw [HT1.out, hh1]; rfl
            go_wp2_with (fail)
            have P2 := Aside0.mk (blk_drew P2.out)
            have P3 := Aside0.mk (blk_drew P3.out)
            have P4 := Aside0.mk (blk_drew P4.out)
            have P8 := Aside0.mk (blk_drew P8.out)
            have RN := Aside0.mk (show Rw _ _ _ _ _ _ from Kd.R_drew RN.out)
            have RD1 := Aside0.mk (show Rw _ _ _ _ _ _ from Kd.R_drew RD1.out)
            have RD2 := Aside0.mk (show Rw _ _ _ _ _ _ from Kd.R_drew RD2.out)
            have HB := Aside0.mk (below_drew1 HB.out)
            have HSS := (show True from trivial)
            refine start_ (n := 21) (S := fun w' => True) (ds := []) (bt_ 21 0) (by kernel_rfl) rfl rfl HSS (fun hHeld => ?_)
            clear HSS
            generalize W7.drew = W8 at P2 P3 P4 P8 RN RD1 RD2 HB hHeld ⊢
            refine pu_ 0 (some 37) (bt_ 21 1) (by kernel_rfl) ?_
            refine pu_ 1 (some 38) (bt_ 21 3) (by kernel_rfl) ?_
            refine pu_ 2 (some 39) (bt_ 21 7) (by kernel_rfl) ?_
            refine pn_ 3 (some 40) (bt_ 21 15) (by kernel_rfl) ?_
            refine pn_ 4 (some 41) (bt_ 21 31) (by kernel_rfl) ?_
            refine pn_ 5 (some 42) (bt_ 21 63) (by kernel_rfl) ?_
            refine pn_ 6 (some 43) (bt_ 21 127) (by kernel_rfl) ?_
            refine pn_ 7 (some 44) (bt_ 21 255) (by kernel_rfl) ?_
            refine pn_ 8 (some 45) (bt_ 21 511) (by kernel_rfl) ?_
            refine pn_ 9 (some 46) (bt_ 21 1023) (by kernel_rfl) ?_
            refine pn_ 10 (some 47) (bt_ 21 2047) (by kernel_rfl) ?_
            refine pn_ 11 (some 48) (bt_ 21 4095) (by kernel_rfl) ?_
            refine pn_ 12 (some 49) (bt_ 21 8191) (by kernel_rfl) ?_
            refine pn_ 13 (some 50) (bt_ 21 16383) (by kernel_rfl) ?_
            refine pn_ 14 (some 51) (bt_ 21 32767) (by kernel_rfl) ?_
            refine pn_ 15 (some 52) (bt_ 21 65535) (by kernel_rfl) ?_
            refine pn_ 16 (some 53) (bt_ 21 131071) (by kernel_rfl) ?_
            refine pn_ 17 (some 54) (bt_ 21 262143) (by kernel_rfl) ?_
            refine pn_ 18 (some 55) (bt_ 21 524287) (by kernel_rfl) ?_
            refine pn_ 19 (some 56) (bt_ 21 1048575) (by kernel_rfl) ?_
            refine pu_ 20 (some 57) (bt_ 21 2097151) (by kernel_rfl) ?_
            refine done_ (by kernel_rfl) ?_
            clear hHeld
            go_wp2_with (fail)
            go_meet
            case rel => exact ⟨P2, P3, P4, P8, HB, RN, RD1, RD2, ⟨fun e => Bool.noConfusion (hh1.symm.trans e.1)⟩⟩
          | true =>
            have hpl := place_has hh1
            have HH1 := Aside0.mk hh1
            obtain rfl : t1 = ((placeN l1 x : Nat) : Int) := by rw [HT1.out, hh1, if_pos rfl, placeN_eq]
            clear hh1
            obtain ⟨ad, hA, y0, y1, y2, y3⟩ := at_T45 (RD1.out.reads).2.2 ((placeN l1 x : Nat) : Int) (by omega) (by omega)
            subst hA
            rw [Int.toNat_natCast] at y0 y1 y2 y3
            obtain ⟨y, hY⟩ : ∃ y, y = rd_T45 l1 ((placeN l1 x : Nat) : Int) := ⟨_, rfl⟩
            rw [← hY] at y0 y1 y2 y3
            have HY := Aside0.mk hY
            have hpd : decide (placeN l1 x < l1.length) = true := decide_eq_true hpl
            clear hY
            cases hy3 : y.f3 with
            | true =>
              rw [hy3] at y3
              go_wp2_with (fail)
              have P2 := Aside0.mk (blk_drew P2.out)
              have P3 := Aside0.mk (blk_drew P3.out)
              have P4 := Aside0.mk (blk_drew P4.out)
              have P8 := Aside0.mk (blk_drew P8.out)
              have RN := Aside0.mk (show Rw _ _ _ _ _ _ from Kd.R_drew RN.out)
              have RD1 := Aside0.mk (show Rw _ _ _ _ _ _ from Kd.R_drew RD1.out)
              have RD2 := Aside0.mk (show Rw _ _ _ _ _ _ from Kd.R_drew RD2.out)
              have HB := Aside0.mk (below_drew1 HB.out)
              have HSS := (show (W7.drew).cell? ⟨b8, 1, none⟩ = some (.slice (some ad) l1.length d1) ∧ (W7.drew).cell? ⟨(ad.add (placeN l1 x * 4)).block, (ad.add (placeN l1 x * 4)).off + 3, none⟩ = some (.bool true) from ⟨(blk_cell P8.out 1).trans rfl, y3⟩)
              refine start_ (n := 21) (S := fun w' => w'.cell? ⟨b8, 1, none⟩ = some (.slice (some ad) l1.length d1) ∧ w'.cell? ⟨(ad.add (placeN l1 x * 4)).block, (ad.add (placeN l1 x * 4)).off + 3, none⟩ = some (.bool true)) (ds := []) (bt_ 21 0) (by kernel_rfl) rfl rfl HSS (fun hHeld => ?_)
              clear HSS
              generalize W7.drew = W8 at P2 P3 P4 P8 RN RD1 RD2 HB hHeld ⊢
              clear y0 y1 y2 y3
              refine pu_ 0 (some 37) (bt_ 21 1) (by kernel_rfl) ?_
              refine pu_ 1 (some 38) (bt_ 21 3) (by kernel_rfl) ?_
              refine pu_ 2 (some 39) (bt_ 21 7) (by kernel_rfl) ?_
              refine pu_ 3 (some 40) (bt_ 21 15) (by kernel_rfl) ?_
              refine tk_ 4 (some 41) (bt_ 21 31) (by kernel_rfl) hHeld ?_
              refine pu_ 5 (some 42) (bt_ 21 63) (by kernel_rfl) ?_
              refine pu_ 6 (some 43) (bt_ 21 127) (by kernel_rfl) ?_
              refine pu_ 7 (some 44) (bt_ 21 255) (by kernel_rfl) ?_
              refine tk_ 8 (some 45) (bt_ 21 511) (by kernel_rfl) hHeld ?_
              refine pu_ 9 (some 46) (bt_ 21 1023) (by kernel_rfl) ?_
              refine pn_ 10 (some 47) (bt_ 21 2047) (by kernel_rfl) ?_
              refine pn_ 11 (some 48) (bt_ 21 4095) (by kernel_rfl) ?_
              refine pn_ 12 (some 49) (bt_ 21 8191) (by kernel_rfl) ?_
              refine pn_ 13 (some 50) (bt_ 21 16383) (by kernel_rfl) ?_
              refine pn_ 14 (some 51) (bt_ 21 32767) (by kernel_rfl) ?_
              refine pn_ 15 (some 52) (bt_ 21 65535) (by kernel_rfl) ?_
              refine pn_ 16 (some 53) (bt_ 21 131071) (by kernel_rfl) ?_
              refine pn_ 17 (some 54) (bt_ 21 262143) (by kernel_rfl) ?_
              refine pn_ 18 (some 55) (bt_ 21 524287) (by kernel_rfl) ?_
              refine pu_ 19 (some 56) (bt_ 21 1048575) (by kernel_rfl) ?_
              refine pu_ 20 (some 57) (bt_ 21 2097151) (by kernel_rfl) ?_
              refine done_ (by kernel_rfl) ?_
              clear hHeld
              have HPP : Aside0 ((hasOf l1 x.f0 = true ∧ ((rd_T45 l1 (placeN l1 x : Nat)).f3 = true ∨ x.f1 ≤ (rd_T45 l1 (placeN l1 x : Nat)).f1))) := ⟨HH1.out, Or.inl (by rw [← HY.out]; exact hy3)⟩
              go_wp2_with (fail)
              have HH0 := HH1
              obtain ⟨ad', hA', y0, y1, y2, y3⟩ := at_T45 (RD1.out.reads).2.2 ((placeN l1 x : Nat) : Int) (by omega) (by omega)
              obtain rfl : ad = ad' := Option.some.inj hA'
              clear hA'
              rw [Int.toNat_natCast, ← HY.out] at y0 y1 y2 y3
              rw [hy3] at y3
              have P2 := Aside0.mk (blk_drew P2.out)
              have P3 := Aside0.mk (blk_drew P3.out)
              have P4 := Aside0.mk (blk_drew P4.out)
              have P8 := Aside0.mk (blk_drew P8.out)
              have RN := Aside0.mk (show Rw _ _ _ _ _ _ from Kd.R_drew RN.out)
              have RD1 := Aside0.mk (show Rw _ _ _ _ _ _ from Kd.R_drew RD1.out)
              have RD2 := Aside0.mk (show Rw _ _ _ _ _ _ from Kd.R_drew RD2.out)
              have HB := Aside0.mk (below_drew1 HB.out)
              have HSS := (show (W8.drew).heap[b8]? = some (.cells #[.int .i64 s, .slice (some ad) l1.length d1, .slice D2 l2.length d2] 29 (0, 0)) ∧ (W8.drew).heap[b3]? = some (.cells #[.int .i64 x.f0, .int .i64 x.f1, .bool x.f2, .bool x.f3] 45 (0, 0)) ∧ (W8.drew).cell? ⟨b8, 1, none⟩ = some (.slice (some ad) l1.length d1) ∧ (W8.drew).cell? (ad.add (placeN l1 x * 4)) = some (.int .i64 y.f0) ∧ (W8.drew).cell? ⟨(ad.add (placeN l1 x * 4)).block, (ad.add (placeN l1 x * 4)).off + 1, none⟩ = some (.int .i64 y.f1) ∧ (W8.drew).cell? ⟨(ad.add (placeN l1 x * 4)).block, (ad.add (placeN l1 x * 4)).off + 2, none⟩ = some (.bool y.f2) ∧ (W8.drew).cell? ⟨(ad.add (placeN l1 x * 4)).block, (ad.add (placeN l1 x * 4)).off + 3, none⟩ = some (.bool true) from ⟨P8.out, P3.out, (blk_cell P8.out 1).trans rfl, y0, y1, y2, y3⟩)
              refine start_ (n := 12) (S := fun w' => w'.heap[b8]? = some (.cells #[.int .i64 s, .slice (some ad) l1.length d1, .slice D2 l2.length d2] 29 (0, 0)) ∧ w'.heap[b3]? = some (.cells #[.int .i64 x.f0, .int .i64 x.f1, .bool x.f2, .bool x.f3] 45 (0, 0)) ∧ w'.cell? ⟨b8, 1, none⟩ = some (.slice (some ad) l1.length d1) ∧ w'.cell? (ad.add (placeN l1 x * 4)) = some (.int .i64 y.f0) ∧ w'.cell? ⟨(ad.add (placeN l1 x * 4)).block, (ad.add (placeN l1 x * 4)).off + 1, none⟩ = some (.int .i64 y.f1) ∧ w'.cell? ⟨(ad.add (placeN l1 x * 4)).block, (ad.add (placeN l1 x * 4)).off + 2, none⟩ = some (.bool y.f2) ∧ w'.cell? ⟨(ad.add (placeN l1 x * 4)).block, (ad.add (placeN l1 x * 4)).off + 3, none⟩ = some (.bool true)) (ds := []) (bt_ 12 0) (by kernel_rfl) rfl rfl HSS (fun hHeld => ?_)
              clear HSS
              generalize W8.drew = W9 at P2 P3 P4 P8 RN RD1 RD2 HB hHeld ⊢
              clear y0 y1 y2 y3
              refine ld_ 0 (some 58) (bt_ 12 1) b8 29 (.tmp 8) #[.int .i64 s, .slice (some ad) l1.length d1, .slice D2 l2.length d2] _ (by kernel_rfl) hHeld (fun _ h_ => h_.1) hu29 rfl (by kernel_rfl) ?_
              refine pu_ 1 (some 59) (bt_ 12 3) (by kernel_rfl) ?_
              refine tk_ 2 (some 60) (bt_ 12 7) (by kernel_rfl) hHeld ?_
              refine pu_ 3 (some 61) (bt_ 12 15) (by kernel_rfl) ?_
              refine pu_ 4 (some 62) (bt_ 12 31) (by kernel_rfl) ?_
              refine tk_ 5 (some 63) (bt_ 12 63) (by kernel_rfl) hHeld ?_
              refine ld_ 6 (some 64) (bt_ 12 127) b3 45 (.tmp 3) #[.int .i64 x.f0, .int .i64 x.f1, .bool x.f2, .bool x.f3] _ (by kernel_rfl) hHeld (fun _ h_ => h_.2.1) hu45 rfl (by kernel_rfl) ?_
              clear hHeld
              refine pu_ (v := .bool (eqH y x)) 7 (some 65) (bt_ 12 255) (by kernel_rfl) (hr := by (intro w'; go_simp; exact eq9t hy3 (fun b => Result.ok (Next.value (Value.bool b)) w'))) ?_
              refine pu_ 8 (some 66) (bt_ 12 511) (by kernel_rfl) ?_
              refine one_ (i := 9) (N := none) (bt_ 12 1023) rfl rfl (by kernel_rfl) (by decide) (fun K hK => ?_)
              refine st_ rfl 29 (.tmp 4) (.tmp 58) rfl b4 #[.int .i64 s, .slice (some ad) l1.length d1, .slice D2 l2.length d2] rfl rfl 29 #[.int .i64 0, .slice none 0 0, .slice none 0 0] P4.out (by kernel_rfl) rfl (by simp [Value.oneCell']) ?_
              have P4 := Aside0.mk (setRow_heap W9 b4 _ #[.int .i64 s, .slice (some ad) l1.length d1, .slice D2 l2.length d2] 29 (0, 0) P4.out)
              have HS := Aside0.mk (below_setRow' (Below.refl b4 W9) (Nat.le_refl b4) #[.int .i64 s, .slice (some ad) l1.length d1, .slice D2 l2.length d2])
              have RN := Aside0.mk (Rw.row_ne RN.out #[.int .i64 s, .slice (some ad) l1.length d1, .slice D2 l2.length d2] (b := b4) NN4.out)
              have RD1 := Aside0.mk (Rw.row_ne RD1.out #[.int .i64 s, .slice (some ad) l1.length d1, .slice D2 l2.length d2] (b := b4) (fun e => by have := RD1.out.at_ e; have := G4.out; have := Z1.out; have := Z2.out; omega))
              have RD2 := Aside0.mk (Rw.row_ne RD2.out #[.int .i64 s, .slice (some ad) l1.length d1, .slice D2 l2.length d2] (b := b4) (fun e => by have := RD2.out.at_ e; have := G4.out; have := Z1.out; have := Z2.out; omega))
              have P8 := Aside0.mk ((setRow_other W9 b4 b8 #[.int .i64 s, .slice (some ad) l1.length d1, .slice D2 l2.length d2] (by have := G8.out; omega)).trans P8.out)
              have P3 := Aside0.mk ((setRow_other W9 b4 b3 #[.int .i64 s, .slice (some ad) l1.length d1, .slice D2 l2.length d2] (by have := G.out; omega)).trans P3.out)
              generalize W9.setRow b4 #[.int .i64 s, .slice (some ad) l1.length d1, .slice D2 l2.length d2] = W9z at P4 P3 P8 HS RN RD1 RD2 ⊢
              obtain ⟨ad', hA', y0, y1, y2, y3⟩ := at_T45 (RD1.out.reads).2.2 ((placeN l1 x : Nat) : Int) (by omega) (by omega)
              obtain rfl : ad = ad' := Option.some.inj hA'
              clear hA'
              rw [Int.toNat_natCast, ← HY.out] at y0 y1 y2 y3
              rw [hy3] at y3
              refine hK.out _ _ ⟨P8.out, P3.out, (blk_cell P8.out 1).trans rfl, y0, y1, y2, y3⟩ (fun hHeld => ?_)
              clear hK K hHeld y0 y1 y2 y3
              refine norm_ (a' := ?_) ?_ ?_
              rotate_left
              · show Act.put _ none _ = _
                simp only [Act.put, List.setIfInBounds_toArray, List.set_cons_zero, List.set_cons_succ, i64_w, i32_w]
                rfl
              refine pu_ 10 (some 5) (bt_ 12 2047) (by kernel_rfl) ?_
              refine pu_ 11 (some 6) (bt_ 12 4095) (by kernel_rfl) ?_
              refine done_ (by kernel_rfl) ?_
              have hh := HH.out
              unfold askF at hh
              rw [if_neg (show ¬ (lockB s l1 l2 = false) by rw [HOK.out]; exact Bool.noConfusion), if_neg (show ¬ (holdB x = false ∨ x.f3 = true) by rw [HHO.out, HF3.out]; simp), if_pos HPP.out] at hh
              simp only [Prod.mk.injEq] at hh
              obtain ⟨rfl, rfl, rfl, rfl, rfl⟩ := hh
              iterate 12 (try go_step)
              refine bodyPost_ret (results_ctt rfl _ _ b4 29 #[.int .i64 s, .slice (some ad) l1.length d1, .slice D2 l2.length d2] (0, 0) _ rfl P4.out hu29 rfl (by kernel_rfl)) rfl ?_
              exact ⟨.slice (some ad) l1.length d1, .slice D2 l2.length d2, vn, by rw [← HY.out]; rfl, Rw.own_ RD1.out (fun k hk => ⟨fun e => SD.out k hk e.symm, fun e => by have := RN.out.at_ e.symm; have := RD1.out.at_ hk; have := Z2.out; omega⟩), Rw.own_ RD2.out (fun k hk => ⟨fun e => SD.out k e.symm hk, fun e => by have := RN.out.at_ e.symm; have := RD2.out.at_ hk; have := Z2.out; omega⟩), Rw.own_ RN.out (fun k hk => ⟨fun e => by have := RN.out.at_ hk; have := RD1.out.at_ e.symm; have := Z2.out; omega, fun e => by have := RN.out.at_ hk; have := RD2.out.at_ e.symm; have := Z2.out; omega⟩), HB.out.trans (HS.out.mono (by have := G.out; omega))⟩
            | false =>
              rw [hy3] at y3
              have hx1 := (blk_cell P3.out 1).trans (show _ = some (.int .i64 x.f1) from rfl)
              go_wp2_with (fail)
              have P2 := Aside0.mk (blk_drew P2.out)
              have P3 := Aside0.mk (blk_drew P3.out)
              have P4 := Aside0.mk (blk_drew P4.out)
              have P8 := Aside0.mk (blk_drew P8.out)
              have RN := Aside0.mk (show Rw _ _ _ _ _ _ from Kd.R_drew RN.out)
              have RD1 := Aside0.mk (show Rw _ _ _ _ _ _ from Kd.R_drew RD1.out)
              have RD2 := Aside0.mk (show Rw _ _ _ _ _ _ from Kd.R_drew RD2.out)
              have HB := Aside0.mk (below_drew1 HB.out)
              have HSS := (show (W7.drew).cell? ⟨b8, 1, none⟩ = some (.slice (some ad) l1.length d1) ∧ (W7.drew).cell? ⟨(ad.add (placeN l1 x * 4)).block, (ad.add (placeN l1 x * 4)).off + 3, none⟩ = some (.bool false) ∧ (W7.drew).cell? ⟨(ad.add (placeN l1 x * 4)).block, (ad.add (placeN l1 x * 4)).off + 1, none⟩ = some (.int .i64 y.f1) ∧ (W7.drew).cell? ⟨b3, 1, none⟩ = some (.int .i64 x.f1) from ⟨(blk_cell P8.out 1).trans rfl, y3, y1, hx1⟩)
              refine start_ (n := 21) (S := fun w' => w'.cell? ⟨b8, 1, none⟩ = some (.slice (some ad) l1.length d1) ∧ w'.cell? ⟨(ad.add (placeN l1 x * 4)).block, (ad.add (placeN l1 x * 4)).off + 3, none⟩ = some (.bool false) ∧ w'.cell? ⟨(ad.add (placeN l1 x * 4)).block, (ad.add (placeN l1 x * 4)).off + 1, none⟩ = some (.int .i64 y.f1) ∧ w'.cell? ⟨b3, 1, none⟩ = some (.int .i64 x.f1)) (ds := []) (bt_ 21 0) (by kernel_rfl) rfl rfl HSS (fun hHeld => ?_)
              clear HSS
              generalize W7.drew = W8 at P2 P3 P4 P8 RN RD1 RD2 HB hHeld ⊢
              clear y0 y1 y2 y3 hx1
              refine pu_ 0 (some 37) (bt_ 21 1) (by kernel_rfl) ?_
              refine pu_ 1 (some 38) (bt_ 21 3) (by kernel_rfl) ?_
              refine pu_ 2 (some 39) (bt_ 21 7) (by kernel_rfl) ?_
              refine pu_ 3 (some 40) (bt_ 21 15) (by kernel_rfl) ?_
              refine tk_ 4 (some 41) (bt_ 21 31) (by kernel_rfl) hHeld ?_
              refine pu_ 5 (some 42) (bt_ 21 63) (by kernel_rfl) ?_
              refine pu_ 6 (some 43) (bt_ 21 127) (by kernel_rfl) ?_
              refine pu_ 7 (some 44) (bt_ 21 255) (by kernel_rfl) ?_
              refine tk_ 8 (some 45) (bt_ 21 511) (by kernel_rfl) hHeld ?_
              refine pu_ 9 (some 46) (bt_ 21 1023) (by kernel_rfl) ?_
              refine pu_ 10 (some 47) (bt_ 21 2047) (by kernel_rfl) ?_
              refine tk_ 11 (some 48) (bt_ 21 4095) (by kernel_rfl) hHeld ?_
              refine pu_ 12 (some 49) (bt_ 21 8191) (by kernel_rfl) ?_
              refine pu_ 13 (some 50) (bt_ 21 16383) (by kernel_rfl) ?_
              refine pu_ 14 (some 51) (bt_ 21 32767) (by kernel_rfl) ?_
              refine tk_ 15 (some 52) (bt_ 21 65535) (by kernel_rfl) hHeld ?_
              refine pu_ 16 (some 53) (bt_ 21 131071) (by kernel_rfl) ?_
              refine tk_ 17 (some 54) (bt_ 21 262143) (by kernel_rfl) hHeld ?_
              refine pu_ 18 (some 55) (bt_ 21 524287) (by kernel_rfl) ?_
              refine pu_ 19 (some 56) (bt_ 21 1048575) (by kernel_rfl) ?_
              refine pu_ 20 (some 57) (bt_ 21 2097151) (by kernel_rfl) ?_
              refine done_ (by kernel_rfl) ?_
              clear hHeld
              by_cases hy1 : x.f1 ≤ y.f1
              · have hyd : decide (x.f1 ≤ y.f1) = true := decide_eq_true hy1
                have HPP : Aside0 ((hasOf l1 x.f0 = true ∧ ((rd_T45 l1 (placeN l1 x : Nat)).f3 = true ∨ x.f1 ≤ (rd_T45 l1 (placeN l1 x : Nat)).f1))) := ⟨HH1.out, Or.inr (by rw [← HY.out]; exact hy1)⟩
                go_wp2_with (fail)
                have HH0 := HH1
                obtain ⟨ad', hA', y0, y1, y2, y3⟩ := at_T45 (RD1.out.reads).2.2 ((placeN l1 x : Nat) : Int) (by omega) (by omega)
                obtain rfl : ad = ad' := Option.some.inj hA'
                clear hA'
                rw [Int.toNat_natCast, ← HY.out] at y0 y1 y2 y3
                rw [hy3] at y3
                have P2 := Aside0.mk (blk_drew P2.out)
                have P3 := Aside0.mk (blk_drew P3.out)
                have P4 := Aside0.mk (blk_drew P4.out)
                have P8 := Aside0.mk (blk_drew P8.out)
                have RN := Aside0.mk (show Rw _ _ _ _ _ _ from Kd.R_drew RN.out)
                have RD1 := Aside0.mk (show Rw _ _ _ _ _ _ from Kd.R_drew RD1.out)
                have RD2 := Aside0.mk (show Rw _ _ _ _ _ _ from Kd.R_drew RD2.out)
                have HB := Aside0.mk (below_drew1 HB.out)
                have HSS := (show (W8.drew).heap[b8]? = some (.cells #[.int .i64 s, .slice (some ad) l1.length d1, .slice D2 l2.length d2] 29 (0, 0)) ∧ (W8.drew).heap[b3]? = some (.cells #[.int .i64 x.f0, .int .i64 x.f1, .bool x.f2, .bool x.f3] 45 (0, 0)) ∧ (W8.drew).cell? ⟨b8, 1, none⟩ = some (.slice (some ad) l1.length d1) ∧ (W8.drew).cell? (ad.add (placeN l1 x * 4)) = some (.int .i64 y.f0) ∧ (W8.drew).cell? ⟨(ad.add (placeN l1 x * 4)).block, (ad.add (placeN l1 x * 4)).off + 1, none⟩ = some (.int .i64 y.f1) ∧ (W8.drew).cell? ⟨(ad.add (placeN l1 x * 4)).block, (ad.add (placeN l1 x * 4)).off + 2, none⟩ = some (.bool y.f2) ∧ (W8.drew).cell? ⟨(ad.add (placeN l1 x * 4)).block, (ad.add (placeN l1 x * 4)).off + 3, none⟩ = some (.bool false) from ⟨P8.out, P3.out, (blk_cell P8.out 1).trans rfl, y0, y1, y2, y3⟩)
                refine start_ (n := 12) (S := fun w' => w'.heap[b8]? = some (.cells #[.int .i64 s, .slice (some ad) l1.length d1, .slice D2 l2.length d2] 29 (0, 0)) ∧ w'.heap[b3]? = some (.cells #[.int .i64 x.f0, .int .i64 x.f1, .bool x.f2, .bool x.f3] 45 (0, 0)) ∧ w'.cell? ⟨b8, 1, none⟩ = some (.slice (some ad) l1.length d1) ∧ w'.cell? (ad.add (placeN l1 x * 4)) = some (.int .i64 y.f0) ∧ w'.cell? ⟨(ad.add (placeN l1 x * 4)).block, (ad.add (placeN l1 x * 4)).off + 1, none⟩ = some (.int .i64 y.f1) ∧ w'.cell? ⟨(ad.add (placeN l1 x * 4)).block, (ad.add (placeN l1 x * 4)).off + 2, none⟩ = some (.bool y.f2) ∧ w'.cell? ⟨(ad.add (placeN l1 x * 4)).block, (ad.add (placeN l1 x * 4)).off + 3, none⟩ = some (.bool false)) (ds := []) (bt_ 12 0) (by kernel_rfl) rfl rfl HSS (fun hHeld => ?_)
                clear HSS
                generalize W8.drew = W9 at P2 P3 P4 P8 RN RD1 RD2 HB hHeld ⊢
                clear y0 y1 y2 y3
                refine ld_ 0 (some 58) (bt_ 12 1) b8 29 (.tmp 8) #[.int .i64 s, .slice (some ad) l1.length d1, .slice D2 l2.length d2] _ (by kernel_rfl) hHeld (fun _ h_ => h_.1) hu29 rfl (by kernel_rfl) ?_
                refine pu_ 1 (some 59) (bt_ 12 3) (by kernel_rfl) ?_
                refine tk_ 2 (some 60) (bt_ 12 7) (by kernel_rfl) hHeld ?_
                refine pu_ 3 (some 61) (bt_ 12 15) (by kernel_rfl) ?_
                refine pu_ 4 (some 62) (bt_ 12 31) (by kernel_rfl) ?_
                refine tk_ 5 (some 63) (bt_ 12 63) (by kernel_rfl) hHeld ?_
                refine ld_ 6 (some 64) (bt_ 12 127) b3 45 (.tmp 3) #[.int .i64 x.f0, .int .i64 x.f1, .bool x.f2, .bool x.f3] _ (by kernel_rfl) hHeld (fun _ h_ => h_.2.1) hu45 rfl (by kernel_rfl) ?_
                clear hHeld
                refine pu_ (v := .bool (eqH y x)) 7 (some 65) (bt_ 12 255) (by kernel_rfl) (hr := by (intro w'; go_simp; exact eq9f hy3 (fun b => Result.ok (Next.value (Value.bool b)) w'))) ?_
                refine pu_ 8 (some 66) (bt_ 12 511) (by kernel_rfl) ?_
                refine one_ (i := 9) (N := none) (bt_ 12 1023) rfl rfl (by kernel_rfl) (by decide) (fun K hK => ?_)
                refine st_ rfl 29 (.tmp 4) (.tmp 58) rfl b4 #[.int .i64 s, .slice (some ad) l1.length d1, .slice D2 l2.length d2] rfl rfl 29 #[.int .i64 0, .slice none 0 0, .slice none 0 0] P4.out (by kernel_rfl) rfl (by simp [Value.oneCell']) ?_
                have P4 := Aside0.mk (setRow_heap W9 b4 _ #[.int .i64 s, .slice (some ad) l1.length d1, .slice D2 l2.length d2] 29 (0, 0) P4.out)
                have HS := Aside0.mk (below_setRow' (Below.refl b4 W9) (Nat.le_refl b4) #[.int .i64 s, .slice (some ad) l1.length d1, .slice D2 l2.length d2])
                have RN := Aside0.mk (Rw.row_ne RN.out #[.int .i64 s, .slice (some ad) l1.length d1, .slice D2 l2.length d2] (b := b4) NN4.out)
                have RD1 := Aside0.mk (Rw.row_ne RD1.out #[.int .i64 s, .slice (some ad) l1.length d1, .slice D2 l2.length d2] (b := b4) (fun e => by have := RD1.out.at_ e; have := G4.out; have := Z1.out; have := Z2.out; omega))
                have RD2 := Aside0.mk (Rw.row_ne RD2.out #[.int .i64 s, .slice (some ad) l1.length d1, .slice D2 l2.length d2] (b := b4) (fun e => by have := RD2.out.at_ e; have := G4.out; have := Z1.out; have := Z2.out; omega))
                have P8 := Aside0.mk ((setRow_other W9 b4 b8 #[.int .i64 s, .slice (some ad) l1.length d1, .slice D2 l2.length d2] (by have := G8.out; omega)).trans P8.out)
                have P3 := Aside0.mk ((setRow_other W9 b4 b3 #[.int .i64 s, .slice (some ad) l1.length d1, .slice D2 l2.length d2] (by have := G.out; omega)).trans P3.out)
                generalize W9.setRow b4 #[.int .i64 s, .slice (some ad) l1.length d1, .slice D2 l2.length d2] = W9z at P4 P3 P8 HS RN RD1 RD2 ⊢
                obtain ⟨ad', hA', y0, y1, y2, y3⟩ := at_T45 (RD1.out.reads).2.2 ((placeN l1 x : Nat) : Int) (by omega) (by omega)
                obtain rfl : ad = ad' := Option.some.inj hA'
                clear hA'
                rw [Int.toNat_natCast, ← HY.out] at y0 y1 y2 y3
                rw [hy3] at y3
                refine hK.out _ _ ⟨P8.out, P3.out, (blk_cell P8.out 1).trans rfl, y0, y1, y2, y3⟩ (fun hHeld => ?_)
                clear hK K hHeld y0 y1 y2 y3
                refine norm_ (a' := ?_) ?_ ?_
                rotate_left
                · show Act.put _ none _ = _
                  simp only [Act.put, List.setIfInBounds_toArray, List.set_cons_zero, List.set_cons_succ, i64_w, i32_w]
                  rfl
                refine pu_ 10 (some 5) (bt_ 12 2047) (by kernel_rfl) ?_
                refine pu_ 11 (some 6) (bt_ 12 4095) (by kernel_rfl) ?_
                refine done_ (by kernel_rfl) ?_
                have hh := HH.out
                unfold askF at hh
                rw [if_neg (show ¬ (lockB s l1 l2 = false) by rw [HOK.out]; exact Bool.noConfusion), if_neg (show ¬ (holdB x = false ∨ x.f3 = true) by rw [HHO.out, HF3.out]; simp), if_pos HPP.out] at hh
                simp only [Prod.mk.injEq] at hh
                obtain ⟨rfl, rfl, rfl, rfl, rfl⟩ := hh
                iterate 12 (try go_step)
                refine bodyPost_ret (results_ctt rfl _ _ b4 29 #[.int .i64 s, .slice (some ad) l1.length d1, .slice D2 l2.length d2] (0, 0) _ rfl P4.out hu29 rfl (by kernel_rfl)) rfl ?_
                exact ⟨.slice (some ad) l1.length d1, .slice D2 l2.length d2, vn, by rw [← HY.out]; rfl, Rw.own_ RD1.out (fun k hk => ⟨fun e => SD.out k hk e.symm, fun e => by have := RN.out.at_ e.symm; have := RD1.out.at_ hk; have := Z2.out; omega⟩), Rw.own_ RD2.out (fun k hk => ⟨fun e => SD.out k e.symm hk, fun e => by have := RN.out.at_ e.symm; have := RD2.out.at_ hk; have := Z2.out; omega⟩), Rw.own_ RN.out (fun k hk => ⟨fun e => by have := RN.out.at_ hk; have := RD1.out.at_ e.symm; have := Z2.out; omega, fun e => by have := RN.out.at_ hk; have := RD2.out.at_ e.symm; have := Z2.out; omega⟩), HB.out.trans (HS.out.mono (by have := G.out; omega))⟩
              · have hyd : decide (x.f1 ≤ y.f1) = false := decide_eq_false hy1
                have HNP : Aside0 (¬ (hasOf l1 x.f0 = true ∧ ((rd_T45 l1 (placeN l1 x : Nat)).f3 = true ∨ x.f1 ≤ (rd_T45 l1 (placeN l1 x : Nat)).f1))) := ⟨by rintro ⟨_, h | h⟩ <;> rw [← HY.out] at h; exact Bool.noConfusion (hy3.symm.trans h); exact hy1 h⟩
                go_wp2_with (fail)
                go_meet
                case rel => exact ⟨P2, P3, P4, P8, HB, RN, RD1, RD2, HNP⟩
        case rest =>
          repeat clear P2
          repeat clear P3
          repeat clear P4
          repeat clear P8
          repeat clear HB
          repeat clear RN
          repeat clear RD1
          repeat clear RD2
          obtain ⟨P2, P3, P4, P8, HB, RN, RD1, RD2, HNP⟩ := hcut
          apply hK8
          clear hK8 K8
          refine wp_seq_k (fun K9 hK9 => ?_)
          have HK9 := Aside0.mk hK9
          clear hK9
          have hd1 := (blk_cell P8.out 2).trans (show _ = some (.slice D2 l2.length d2) from rfl)
          have hx0 := (blk_cell P3.out 0).trans (show _ = some (.int .i64 x.f0) from rfl)
          go_wp2_with (fail)
          clear hd1 hx0
          obtain ⟨K1, k1⟩ := l11At_ev l2 x.f0 HL2.out HA2.out
          obtain ⟨t2, ht2⟩ : ∃ t2, t2 = (if hasOf l2 x.f0 = true then placeOf l2 x.f0 else -1) := ⟨_, rfl⟩
          rw [← ht2] at k1
          have kk := k1 K1 (Nat.le_refl _)
          clear k1
          refine (spec_l11At.calls K1 D2 d2 l2 x.f0 t2 wc (RD2.out.reads).2.2 (RD2.out.reads).2.1 kk).mono ?_
          rintro e W10_ ⟨rfl, ⟨nd, rfl⟩⟩
          have hb := pw_below_drewN (Below.refl wc.heap.size wc) nd
          generalize wc.drewN nd = W10 at hb ⊢
          have HT2 := Aside0.mk ht2
          clear kk ht2
          have P2 := Aside0.mk (blk_below P2.out hb)
          have P3 := Aside0.mk (blk_below P3.out hb)
          have P4 := Aside0.mk (blk_below P4.out hb)
          have P8 := Aside0.mk (blk_below P8.out hb)
          have RN := Aside0.mk (Rw.below RN.out hb)
          have RD1 := Aside0.mk (Rw.below RD1.out hb)
          have RD2 := Aside0.mk (Rw.below RD2.out hb)
          have HB := Aside0.mk (below_step HB.out hb)
          clear hb
          go_wp2_with (fail)
          apply HK9.out
          clear HK9 K9
          refine wp_seq_k (fun K11 hK11 => ?_)
          go_cut [] from 11 (fun wx => Aside0 (wx.heap[w.heap.size]? = some (.cells #[.int .i64 s, .slice A1 l1.length c1, .slice A2 l2.length c2] 29 (0, 0))) ∧ Aside0 (wx.heap[b3]? = some (.cells #[.int .i64 x.f0, .int .i64 x.f1, .bool x.f2, .bool x.f3] 45 (0, 0))) ∧ Aside0 (wx.heap[b4]? = some (.cells #[.int .i64 0, .slice none 0 0, .slice none 0 0] 29 (0, 0))) ∧ Aside0 (wx.heap[b8]? = some (.cells #[.int .i64 s, .slice D1 l1.length d1, .slice D2 l2.length d2] 29 (0, 0))) ∧ Aside0 (Below w.heap.size w wx) ∧ Aside0 (Rw w.heap.size wx W1.heap.size W2.heap.size vn []) ∧ Aside0 (Rw w.heap.size wx W3.heap.size W4.heap.size (.slice D1 l1.length d1) l1) ∧ Aside0 (Rw w.heap.size wx W3.heap.size W4.heap.size (.slice D2 l2.length d2) l2) ∧ Aside0 (¬ (hasOf l2 x.f0 = true ∧ x.f1 < (rd_T45 l2 (placeN l2 x : Nat)).f1)))
          case first =>
            cases hh2 : hasOf l2 x.f0 with
            | false =>
              obtain rfl : t2 = -1 := by rw [HT2.out, hh2]; rfl
              go_wp2_with (fail)
              have P2 := Aside0.mk (blk_drew P2.out)
              have P3 := Aside0.mk (blk_drew P3.out)
              have P4 := Aside0.mk (blk_drew P4.out)
              have P8 := Aside0.mk (blk_drew P8.out)
              have RN := Aside0.mk (show Rw _ _ _ _ _ _ from Kd.R_drew RN.out)
              have RD1 := Aside0.mk (show Rw _ _ _ _ _ _ from Kd.R_drew RD1.out)
              have RD2 := Aside0.mk (show Rw _ _ _ _ _ _ from Kd.R_drew RD2.out)
              have HB := Aside0.mk (below_drew1 HB.out)
              have HSS := (show True from trivial)
              refine start_ (n := 13) (S := fun w' => True) (ds := []) (bt_ 13 0) (by kernel_rfl) rfl rfl HSS (fun hHeld => ?_)
              clear HSS
              generalize W10.drew = W11 at P2 P3 P4 P8 RN RD1 RD2 HB hHeld ⊢
              refine pu_ 0 (some 72) (bt_ 13 1) (by kernel_rfl) ?_
              refine pu_ 1 (some 73) (bt_ 13 3) (by kernel_rfl) ?_
              refine pu_ 2 (some 74) (bt_ 13 7) (by kernel_rfl) ?_
              refine pn_ 3 (some 75) (bt_ 13 15) (by kernel_rfl) ?_
              refine pn_ 4 (some 76) (bt_ 13 31) (by kernel_rfl) ?_
              refine pn_ 5 (some 77) (bt_ 13 63) (by kernel_rfl) ?_
              refine pn_ 6 (some 78) (bt_ 13 127) (by kernel_rfl) ?_
              refine pn_ 7 (some 79) (bt_ 13 255) (by kernel_rfl) ?_
              refine pn_ 8 (some 80) (bt_ 13 511) (by kernel_rfl) ?_
              refine pn_ 9 (some 81) (bt_ 13 1023) (by kernel_rfl) ?_
              refine pn_ 10 (some 82) (bt_ 13 2047) (by kernel_rfl) ?_
              refine pn_ 11 (some 83) (bt_ 13 4095) (by kernel_rfl) ?_
              refine pu_ 12 (some 84) (bt_ 13 8191) (by kernel_rfl) ?_
              refine done_ (by kernel_rfl) ?_
              clear hHeld
              go_wp2_with (fail)
              go_meet
              case rel => exact ⟨P2, P3, P4, P8, HB, RN, RD1, RD2, ⟨fun e => Bool.noConfusion (hh2.symm.trans e.1)⟩⟩
            | true =>
              have hpl := place_has hh2
              have HH2 := Aside0.mk hh2
              obtain rfl : t2 = ((placeN l2 x : Nat) : Int) := by rw [HT2.out, hh2, if_pos rfl, placeN_eq]
              clear hh2
              obtain ⟨ad, hA, y0, y1, y2, y3⟩ := at_T45 (RD2.out.reads).2.2 ((placeN l2 x : Nat) : Int) (by omega) (by omega)
              subst hA
              rw [Int.toNat_natCast] at y1
              obtain ⟨y, hY⟩ : ∃ y, y = rd_T45 l2 ((placeN l2 x : Nat) : Int) := ⟨_, rfl⟩
              rw [← hY] at y1
              have HY := Aside0.mk hY
              have hpd : decide (placeN l2 x < l2.length) = true := decide_eq_true hpl
              clear hY y0 y2 y3
              have hx1 := (blk_cell P3.out 1).trans (show _ = some (.int .i64 x.f1) from rfl)
              go_wp2_with (fail)
              have P2 := Aside0.mk (blk_drew P2.out)
              have P3 := Aside0.mk (blk_drew P3.out)
              have P4 := Aside0.mk (blk_drew P4.out)
              have P8 := Aside0.mk (blk_drew P8.out)
              have RN := Aside0.mk (show Rw _ _ _ _ _ _ from Kd.R_drew RN.out)
              have RD1 := Aside0.mk (show Rw _ _ _ _ _ _ from Kd.R_drew RD1.out)
              have RD2 := Aside0.mk (show Rw _ _ _ _ _ _ from Kd.R_drew RD2.out)
              have HB := Aside0.mk (below_drew1 HB.out)
              have HSS := (show (W10.drew).cell? ⟨b8, 2, none⟩ = some (.slice (some ad) l2.length d2) ∧ (W10.drew).cell? ⟨(ad.add (placeN l2 x * 4)).block, (ad.add (placeN l2 x * 4)).off + 1, none⟩ = some (.int .i64 y.f1) ∧ (W10.drew).cell? ⟨b3, 1, none⟩ = some (.int .i64 x.f1) from ⟨(blk_cell P8.out 2).trans rfl, y1, hx1⟩)
              refine start_ (n := 13) (S := fun w' => w'.cell? ⟨b8, 2, none⟩ = some (.slice (some ad) l2.length d2) ∧ w'.cell? ⟨(ad.add (placeN l2 x * 4)).block, (ad.add (placeN l2 x * 4)).off + 1, none⟩ = some (.int .i64 y.f1) ∧ w'.cell? ⟨b3, 1, none⟩ = some (.int .i64 x.f1)) (ds := []) (bt_ 13 0) (by kernel_rfl) rfl rfl HSS (fun hHeld => ?_)
              clear HSS
              generalize W10.drew = W11 at P2 P3 P4 P8 RN RD1 RD2 HB hHeld ⊢
              clear y1 hx1
              refine pu_ 0 (some 72) (bt_ 13 1) (by kernel_rfl) ?_
              refine pu_ 1 (some 73) (bt_ 13 3) (by kernel_rfl) ?_
              refine pu_ 2 (some 74) (bt_ 13 7) (by kernel_rfl) ?_
              refine pu_ 3 (some 75) (bt_ 13 15) (by kernel_rfl) ?_
              refine tk_ 4 (some 76) (bt_ 13 31) (by kernel_rfl) hHeld ?_
              refine pu_ 5 (some 77) (bt_ 13 63) (by kernel_rfl) ?_
              refine pu_ 6 (some 78) (bt_ 13 127) (by kernel_rfl) ?_
              refine pu_ 7 (some 79) (bt_ 13 255) (by kernel_rfl) ?_
              refine tk_ 8 (some 80) (bt_ 13 511) (by kernel_rfl) hHeld ?_
              refine pu_ 9 (some 81) (bt_ 13 1023) (by kernel_rfl) ?_
              refine tk_ 10 (some 82) (bt_ 13 2047) (by kernel_rfl) hHeld ?_
              refine pu_ 11 (some 83) (bt_ 13 4095) (by kernel_rfl) ?_
              refine pu_ 12 (some 84) (bt_ 13 8191) (by kernel_rfl) ?_
              refine done_ (by kernel_rfl) ?_
              clear hHeld
              by_cases hy2 : x.f1 < y.f1
              · have hye : decide (x.f1 < y.f1) = true := decide_eq_true hy2
                have HPQ : Aside0 ((hasOf l2 x.f0 = true ∧ x.f1 < (rd_T45 l2 (placeN l2 x : Nat)).f1)) := ⟨HH2.out, by rw [← HY.out]; exact hy2⟩
                have hh := HH.out
                unfold askF at hh
                rw [if_neg (show ¬ (lockB s l1 l2 = false) by rw [HOK.out]; exact Bool.noConfusion), if_neg (show ¬ (holdB x = false ∨ x.f3 = true) by rw [HHO.out, HF3.out]; simp), if_neg HNP.out, if_pos HPQ.out] at hh
                simp only [Prod.mk.injEq] at hh
                obtain ⟨rfl, rfl, rfl, rfl, rfl⟩ := hh
                go_wp2_with (first | ((with_reducible refine gate_dst (N := 85) rfl ?_); refine wpList_load_row rfl 29 (.tmp 8) rfl b8 rfl 29 #[.int .i64 s, .slice D1 l1.length d1, .slice (some ad) l2.length d2] (0, 0) _ P8.out hu29 rfl (by kernel_rfl) ?_) | ((with_reducible refine gate_store (t := 29) (p := 4) rfl ?_); (refine wpList_store_row rfl 29 (.tmp 4) (.tmp 85) rfl b4 #[.int .i64 s, .slice D1 l1.length d1, .slice (some ad) l2.length d2] rfl rfl 29 #[.int .i64 0, .slice none 0 0, .slice none 0 0] P4.out (by kernel_rfl) rfl (by simp [Value.oneCell']) ?_; have P4 := Aside0.mk (setRow_heap W11 b4 _ #[.int .i64 s, .slice D1 l1.length d1, .slice (some ad) l2.length d2] 29 (0, 0) P4.out); have HS := Aside0.mk (below_setRow' (Below.refl b4 W11) (Nat.le_refl b4) #[.int .i64 s, .slice D1 l1.length d1, .slice (some ad) l2.length d2]); have RN := Aside0.mk (Rw.row_ne RN.out #[.int .i64 s, .slice D1 l1.length d1, .slice (some ad) l2.length d2] (b := b4) NN4.out); have RD1 := Aside0.mk (Rw.row_ne RD1.out #[.int .i64 s, .slice D1 l1.length d1, .slice (some ad) l2.length d2] (b := b4) (fun e => by have := RD1.out.at_ e; have := G4.out; have := Z1.out; have := Z2.out; omega)); have RD2 := Aside0.mk (Rw.row_ne RD2.out #[.int .i64 s, .slice D1 l1.length d1, .slice (some ad) l2.length d2] (b := b4) (fun e => by have := RD2.out.at_ e; have := G4.out; have := Z1.out; have := Z2.out; omega)); generalize W11.setRow b4 #[.int .i64 s, .slice D1 l1.length d1, .slice (some ad) l2.length d2] = W12 at P4 HS RN RD1 RD2 ⊢; refine Aside0.out ?_)))
                refine Aside0.mk ?_
                iterate 12 (try go_step)
                refine bodyPost_ret (results_ctt rfl _ _ b4 29 #[.int .i64 s, .slice D1 l1.length d1, .slice (some ad) l2.length d2] (0, 0) _ rfl P4.out hu29 rfl (by kernel_rfl)) rfl ?_
                exact ⟨_, _, _, rfl, Rw.own_ RD1.out (fun k hk => ⟨fun e => SD.out k hk e.symm, fun e => by have := RN.out.at_ e.symm; have := RD1.out.at_ hk; have := Z2.out; omega⟩), Rw.own_ RD2.out (fun k hk => ⟨fun e => SD.out k e.symm hk, fun e => by have := RN.out.at_ e.symm; have := RD2.out.at_ hk; have := Z2.out; omega⟩), Rw.own_ RN.out (fun k hk => ⟨fun e => by have := RN.out.at_ hk; have := RD1.out.at_ e.symm; have := Z2.out; omega, fun e => by have := RN.out.at_ hk; have := RD2.out.at_ e.symm; have := Z2.out; omega⟩), HB.out.trans (HS.out.mono (by have := G.out; omega))⟩
              · have hye : decide (x.f1 < y.f1) = false := decide_eq_false hy2
                go_wp2_with (fail)
                go_meet
                case rel => exact ⟨P2, P3, P4, P8, HB, RN, RD1, RD2, ⟨by rintro ⟨_, h⟩; rw [← HY.out] at h; omega⟩⟩
          case rest =>
            repeat clear P2
            repeat clear P3
            repeat clear P4
            repeat clear P8
            repeat clear HB
            repeat clear RN
            repeat clear RD1
            repeat clear RD2
            obtain ⟨P2, P3, P4, P8, HB, RN, RD1, RD2, HNQ⟩ := hcut
            apply hK11
            clear hK11 K11
            generalize wc = W13 at P2 P3 P4 P8 HB RN RD1 RD2 ⊢
            have Z13 : Aside0 (b8 < W13.heap.size) := ⟨blk_lt P8.out⟩
            have hx0 := (blk_cell P3.out 0).trans (show _ = some (.int .i64 x.f0) from rfl)
            have hx1 := (blk_cell P3.out 1).trans (show _ = some (.int .i64 x.f1) from rfl)
            have hd1 := (blk_cell P8.out 1).trans (show _ = some (.slice D1 l1.length d1) from rfl)
            go_wp2_with (fail)
            clear hx0 hx1 hd1
            obtain ⟨K1, k1⟩ := without_ev l1 x.f0 x.f1 HL1.out
            have kk := k1 K1 (Nat.le_refl _)
            clear k1
            rw [without_eq HA1.out (fun hh => by have h4 : ¬ (x.f1 ≤ (rd_T45 l1 (placeN l1 x : Nat)).f1) := fun e => HNP.out ⟨hh, Or.inr e⟩; rw [placeN_eq]; omega)] at kk
            refine (spec_l11Without.calls K1 D1 d1 l1 x.f0 x.f1 (l1.filter (fun z => !decide (z.f0 = x.f0))) W13 (RD1.out.reads).2.2 (RD1.out.reads).2.1 kk).mono ?_
            rintro e W14 ⟨v1, rfl, q1, hb⟩
            clear kk
            obtain ⟨H1, e1, e0⟩ := Kd.R_slice q1
            subst e0
            have q1 := Rw.of q1 HB.out.size
            have ZW14 := Aside0.mk hb.size
            have P2 := Aside0.mk (blk_below P2.out hb)
            have P3 := Aside0.mk (blk_below P3.out hb)
            have P4 := Aside0.mk (blk_below P4.out hb)
            have P8 := Aside0.mk (blk_below P8.out hb)
            have RN := Aside0.mk (Rw.below RN.out hb)
            have RD1 := Aside0.mk (Rw.below RD1.out hb)
            have RD2 := Aside0.mk (Rw.below RD2.out hb)
            have HB := Aside0.mk (below_step HB.out hb)
            clear hb
            have RH := Aside0.mk q1
            clear q1
            generalize hq_ : List.filter (fun z => !decide (z.f0 = x.f0)) l1 = M1 at RH ⊢
            have HM1 := Aside0.mk hq_
            clear hq_
            have hb0 := (blk_cell P8.out 0).trans (show _ = some (.int .i64 s) from rfl)
            have hf0 := blk_frozen P8.out 0
            have hb1 := (blk_cell P8.out 1).trans (show _ = some (.slice D1 l1.length d1) from rfl)
            have hf1 := blk_frozen P8.out 1
            have hb2 := (blk_cell P8.out 2).trans (show _ = some (.slice D2 l2.length d2) from rfl)
            have hf2 := blk_frozen P8.out 2
            have hx0 := (blk_cell P3.out 0).trans (show _ = some (.int .i64 x.f0) from rfl)
            have hx1 := (blk_cell P3.out 1).trans (show _ = some (.int .i64 x.f1) from rfl)
            go_wp2_with (fail)
            clear hb0 hb1 hb2 hf0 hf1 hf2 hx0 hx1
            have P2 := Aside0.mk (blk_far (p := ⟨b8, 1, none⟩) P2.out (show w.heap.size ≠ b8 by have := G8.out; have := G.out; omega) (.slice H1 M1.length e1))
            have P3 := Aside0.mk (blk_far (p := ⟨b8, 1, none⟩) P3.out (show b3 ≠ b8 by have := G8.out; have := G.out; omega) (.slice H1 M1.length e1))
            have P4 := Aside0.mk (blk_far (p := ⟨b8, 1, none⟩) P4.out (show b4 ≠ b8 by have := G8.out; have := G.out; omega) (.slice H1 M1.length e1))
            have P8 := Aside0.mk (blk_put (cs' := #[.int .i64 s, .slice H1 M1.length e1, .slice D2 l2.length d2]) P8.out 1 (.slice H1 M1.length e1) rfl)
            have HB := Aside0.mk (below_set (g := b8) (j := 1) (v := .slice H1 M1.length e1) HB.out (by have := G8.out; have := G.out; omega))
            have RN := Aside0.mk (Rw.cell (b := b8) (j := 1) (u := .slice H1 M1.length e1) RN.out (Or.inr (by have := ZB8.out; have := Z2.out; have := Z3.out; omega)))
            have RD1 := Aside0.mk (Rw.cell (b := b8) (j := 1) (u := .slice H1 M1.length e1) RD1.out (Or.inr (by have := ZB8.out; omega)))
            have RD2 := Aside0.mk (Rw.cell (b := b8) (j := 1) (u := .slice H1 M1.length e1) RD2.out (Or.inr (by have := ZB8.out; omega)))
            have RH := Aside0.mk (Rw.cell (b := b8) (j := 1) (u := .slice H1 M1.length e1) RH.out (Or.inl (by have := Z13.out; omega)))
            have YW15 := Aside0.mk (show W14.heap.size ≤ (W14.setCell ⟨b8, 1, none⟩ (.slice H1 M1.length e1)).heap.size by simp)
            generalize (W14.setCell ⟨b8, 1, none⟩ (.slice H1 M1.length e1)) = W15 at P2 P3 P4 P8 HB RN RD1 RD2 RH YW15 ⊢
            obtain ⟨K1, k1⟩ := without_ev l2 x.f0 x.f1 HL2.out
            have kk := k1 K1 (Nat.le_refl _)
            clear k1
            rw [without_eq HA2.out (fun hh => by have h4 : ¬ (x.f1 < (rd_T45 l2 (placeN l2 x : Nat)).f1) := fun e => HNQ.out ⟨hh, e⟩; rw [placeN_eq]; omega)] at kk
            refine (spec_l11Without.calls K1 D2 d2 l2 x.f0 x.f1 (l2.filter (fun z => !decide (z.f0 = x.f0))) W15 (RD2.out.reads).2.2 (RD2.out.reads).2.1 kk).mono ?_
            rintro e W16 ⟨v1, rfl, q1, hb⟩
            clear kk
            obtain ⟨H2, e2, e0⟩ := Kd.R_slice q1
            subst e0
            have q1 := Rw.of q1 HB.out.size
            have ZW16 := Aside0.mk hb.size
            have P2 := Aside0.mk (blk_below P2.out hb)
            have P3 := Aside0.mk (blk_below P3.out hb)
            have P4 := Aside0.mk (blk_below P4.out hb)
            have P8 := Aside0.mk (blk_below P8.out hb)
            have RN := Aside0.mk (Rw.below RN.out hb)
            have RD1 := Aside0.mk (Rw.below RD1.out hb)
            have RD2 := Aside0.mk (Rw.below RD2.out hb)
            have RH := Aside0.mk (Rw.below RH.out hb)
            have HB := Aside0.mk (below_step HB.out hb)
            clear hb
            have RW := Aside0.mk q1
            clear q1
            generalize hq_ : List.filter (fun z => !decide (z.f0 = x.f0)) l2 = M2 at RW ⊢
            have HM2 := Aside0.mk hq_
            clear hq_
            have hb0 := (blk_cell P8.out 0).trans (show _ = some (.int .i64 s) from rfl)
            have hf0 := blk_frozen P8.out 0
            have hb1 := (blk_cell P8.out 1).trans (show _ = some (.slice H1 M1.length e1) from rfl)
            have hf1 := blk_frozen P8.out 1
            have hb2 := (blk_cell P8.out 2).trans (show _ = some (.slice D2 l2.length d2) from rfl)
            have hf2 := blk_frozen P8.out 2
            have P2 := Aside0.mk (blk_far (p := ⟨b8, 2, none⟩) P2.out (show w.heap.size ≠ b8 by have := G8.out; have := G.out; omega) (.slice H2 M2.length e2))
            have P3 := Aside0.mk (blk_far (p := ⟨b8, 2, none⟩) P3.out (show b3 ≠ b8 by have := G8.out; have := G.out; omega) (.slice H2 M2.length e2))
            have P4 := Aside0.mk (blk_far (p := ⟨b8, 2, none⟩) P4.out (show b4 ≠ b8 by have := G8.out; have := G.out; omega) (.slice H2 M2.length e2))
            have P8 := Aside0.mk (blk_put (cs' := #[.int .i64 s, .slice H1 M1.length e1, .slice H2 M2.length e2]) P8.out 2 (.slice H2 M2.length e2) rfl)
            have HB := Aside0.mk (below_set (g := b8) (j := 2) (v := .slice H2 M2.length e2) HB.out (by have := G8.out; have := G.out; omega))
            have RN := Aside0.mk (Rw.cell (b := b8) (j := 2) (u := .slice H2 M2.length e2) RN.out (Or.inr (by have := ZB8.out; have := Z2.out; have := Z3.out; omega)))
            have RD1 := Aside0.mk (Rw.cell (b := b8) (j := 2) (u := .slice H2 M2.length e2) RD1.out (Or.inr (by have := ZB8.out; omega)))
            have RD2 := Aside0.mk (Rw.cell (b := b8) (j := 2) (u := .slice H2 M2.length e2) RD2.out (Or.inr (by have := ZB8.out; omega)))
            have RH := Aside0.mk (Rw.cell (b := b8) (j := 2) (u := .slice H2 M2.length e2) RH.out (Or.inl (by have := Z13.out; omega)))
            have RW := Aside0.mk (Rw.cell (b := b8) (j := 2) (u := .slice H2 M2.length e2) RW.out (Or.inl (by have := Z13.out; have := ZW14.out; have := YW15.out; omega)))
            have YW17 := Aside0.mk (show W16.heap.size ≤ (W16.setCell ⟨b8, 2, none⟩ (.slice H2 M2.length e2)).heap.size by simp)
            go_upto_region 15 with (fail)
            clear hb0 hb1 hb2 hf0 hf1 hf2
            generalize (W16.setCell ⟨b8, 2, none⟩ (.slice H2 M2.length e2)) = W17 at P2 P3 P4 P8 HB RN RD1 RD2 RH RW YW17 ⊢
            have HM1l : Aside0 (M1.length ≤ 16) := ⟨by rw [← HM1.out]; exact Nat.le_trans (List.length_filter_le _ _) HQ.out.1⟩
            have HM2l : Aside0 (M2.length ≤ 16) := ⟨by rw [← HM2.out]; exact Nat.le_trans (List.length_filter_le _ _) HQ.out.2⟩
            go_upto_region 16 with (((with_reducible refine gate_dst (N := 103) rfl ?_); refine Kd.R_lit k45 _ 45 ?hg (N := 103) ?hd (xs := ([] : List (S45))) (inner := []) (ok := fun _ => True) (okp := fun _ => True) ?hr ?hp (fun _ hk => hk) trivial (Below.refl _ _) (Nat.le_refl _) (by simp) ?_; (case hd => rfl); (case hg => rfl); (case hr => first | (go_simp; done) | (go_simp; rfl)); (case hp => exact (Reps.none _ _)); intro vt Wvt qg hb hg_ hnew_; clear hg_ hnew_; have QT := Aside0.mk qg; have HBt := Aside0.mk hb; clear qg hb))
            have HLa := Aside0.mk (show Below W17.heap.size W17 Wvt from HBt.out)
            have RT := Aside0.mk (show k45.R 45 Wvt W17.heap.size (fun _ => True) vt [] from QT.out)
            clear HBt QT
            go_upto_region 17 with (((with_reducible refine gate_dst (N := 104) rfl ?_); refine Kd.R_lit k45 _ 45 ?hg (N := 104) ?hd (xs := ([] : List (S45))) (inner := []) (ok := fun _ => True) (okp := fun _ => True) ?hr ?hp (fun _ hk => hk) trivial (Below.refl _ _) (Nat.le_refl _) (by simp) ?_; (case hd => rfl); (case hg => rfl); (case hr => first | (go_simp; done) | (go_simp; rfl)); (case hp => exact (Reps.none _ _)); intro vk Wvk qg hb hg_ hnew_; clear hg_ hnew_; have QK := Aside0.mk qg; have HBk := Aside0.mk hb; clear qg hb))
            have HLb := Aside0.mk (below_step HLa.out HBk.out)
            have RK := Aside0.mk (Kd.R_lower QK.out HLa.out.size)
            have STK := Aside0.mk (show ∀ k, (vt : Value).ownBlock = some k → (vk : Value).ownBlock ≠ some k from fun k hk e => by have a1 := Kd.R_lt RT.out k hk; have a2 := ((Kd.R_bound QK.out).1 k e).2.1; omega)
            have RT := Aside0.mk (Kd.R_below RT.out HBk.out)
            clear HBk QK HLa
            generalize Wvk = W18 at HLb RT RK ⊢
            go_wp2_with (fail)
            go_loopw [11, 12, 13] (fun v11 v12 i wr => ∃ n : Nat, i = .int .i64 (n : Int) ∧ Aside0 (n ≤ M1.length) ∧ Aside0 (Below W17.heap.size W17 wr) ∧ Aside0 (k45.R 45 wr W17.heap.size (fun _ => True) v11 ((M1.take n).filter (tkB x))) ∧ Aside0 (k45.R 45 wr W17.heap.size (fun _ => True) v12 ((M1.take n).filter (fun z => !tkB x z))) ∧ Aside0 (∀ k, (v11 : Value).ownBlock = some k → (v12 : Value).ownBlock ≠ some k)) (fun _ _ i _ => M1.length - (intOf i).toNat)
            case atStart => exact ⟨0, rfl, ⟨Nat.zero_le _⟩, ⟨by first | exact HLb.out | exact pw_below_drewN HLb.out _⟩, RT, RK, STK⟩
            case round =>
              clear HLb RT RK STK
              obtain ⟨n, rfl, HX, HL, RT, RK, STK⟩ := hrel
              have hwr : W17.heap.size ≤ wr.heap.size := HL.out.size
              have P3r := Aside0.mk (blk_below P3.out HL.out)
              have P8r := Aside0.mk (blk_below P8.out HL.out)
              have RHr := Aside0.mk (Rw.below RH.out HL.out)
              have hb1 := (blk_cell P8r.out 1).trans (show _ = some (.slice H1 M1.length e1) from rfl)
              by_cases hlt : n < M1.length
              · have hdl : decide (n < M1.length) = true := decide_eq_true hlt
                have HLT := Aside0.mk hlt
                obtain ⟨ad, hA, hx0, hx1, hx2, hx3⟩ := at_T45 (RHr.out.reads).2.2 (n : Int) (by omega) (by omega)
                subst hA
                simp only [Int.toNat_natCast] at hx0 hx1 hx2 hx3
                have hll := HM1l.out
                have hw : wrap64 ((n : Int) + 1) = (n : Int) + 1 := by unfold wrap64; omega
                have hrd := rdH hlt
                rw [hrd] at hx0 hx1 hx2 hx3
                have HF1 := Aside0.mk (show (M1.take (n + 1)).filter (tkB x) = (M1.take n).filter (tkB x) ++ (if tkB x M1[n] = true then [M1[n]] else []) by rw [List.take_succ_eq_append_getElem hlt, List.filter_append]; congr 1; cases h9 : tkB x M1[n] <;> simp [List.filter, h9])
                have HF2 := Aside0.mk (show (M1.take (n + 1)).filter (fun z => !tkB x z) = (M1.take n).filter (fun z => !tkB x z) ++ (if tkB x M1[n] = true then [] else [M1[n]]) by rw [List.take_succ_eq_append_getElem hlt, List.filter_append]; congr 1; cases h9 : tkB x M1[n] <;> simp [List.filter, h9])
                have HLE := Aside0.mk (show ((M1.take n).filter (tkB x)).length ≤ 16 ∧ ((M1.take n).filter (fun z => !tkB x z)).length ≤ 16 from ⟨Nat.le_trans (List.length_filter_le _ _) (by rw [List.length_take]; omega), Nat.le_trans (List.length_filter_le _ _) (by rw [List.length_take]; omega)⟩)
                generalize M1[n] = y at hx0 hx1 hx2 hx3 HF1 HF2
                clear hrd
                generalize hT_ : (M1.take n).filter (tkB x) = T0 at RT HF1 HLE
                generalize hK_ : (M1.take n).filter (fun z => !tkB x z) = K0_ at RK HF2 HLE
                clear hT_ hK_
                have P14 := Aside0.mk (blk_new wr (.cells #[.int .i64 y.f0, .int .i64 y.f1, .bool y.f2, .bool y.f3] 45 (0, 0)))
                have P3a := Aside0.mk (blk_alloc P3r.out (.cells #[.int .i64 y.f0, .int .i64 y.f1, .bool y.f2, .bool y.f3] 45 (0, 0)))
                have hb1a : (wr.alloc (.cells #[.int .i64 y.f0, .int .i64 y.f1, .bool y.f2, .bool y.f3] 45 (0, 0))).cell? ⟨b8, 1, none⟩ = some (.slice (some ad) M1.length e1) := (World.cell?_alloc_lt _ _ _ (blk_lt P8r.out)).trans hb1
                go_wp2_with (first | ((with_reducible refine gate_dst (N := 117) rfl ?_); refine wpList_load_row rfl 45 (.tmp 14) rfl wr.heap.size rfl 45 #[.int .i64 y.f0, .int .i64 y.f1, .bool y.f2, .bool y.f3] (0, 0) _ P14.out hu45 rfl (by kernel_rfl) ?_) | ((with_reducible refine gate_dst (N := 118) rfl ?_); refine wpList_load_row rfl 45 (.tmp 3) rfl b3 rfl 45 #[.int .i64 x.f0, .int .i64 x.f1, .bool x.f2, .bool x.f3] (0, 0) _ P3a.out hu45 rfl (by kernel_rfl) ?_))
                clear hx0 hx1 hx2 hx3 hb1 hlt
                refine (spec_l11Meet.calls y.f0 y.f1 y.f2 y.f3 x.f0 x.f1 x.f2 x.f3 (meetB y x) (wr.alloc (.cells #[.int .i64 y.f0, .int .i64 y.f1, .bool y.f2, .bool y.f3] 45 (0, 0))) (smeet_eq y x)).mono ?_
                rintro e V1 ⟨rfl, hb⟩
                have HL := Aside0.mk (below_step (below_alloc HL.out (.cells #[.int .i64 y.f0, .int .i64 y.f1, .bool y.f2, .bool y.f3] 45 (0, 0))) hb)
                have RT := Aside0.mk (Kd.R_below (Kd.R_alloc RT.out _) hb)
                have RK := Aside0.mk (Kd.R_below (Kd.R_alloc RK.out _) hb)
                have P14 := Aside0.mk (blk_below P14.out hb)
                have P3r := Aside0.mk (blk_below P3a.out hb)
                have G14 := Aside0.mk (show W17.heap.size ≤ wr.heap.size from hwr)
                clear hb P3a hb1a hwr P8r RHr
                generalize wr.heap.size = b14 at P14 G14 ⊢
                have he0 := (blk_cell P14.out 0).trans (show _ = some (.int .i64 y.f0) from rfl)
                have he3 := (blk_cell P14.out 3).trans (show _ = some (.bool y.f3) from rfl)
                have hx0 := (blk_cell P3r.out 0).trans (show _ = some (.int .i64 x.f0) from rfl)
                cases hm : meetB y x with
                | false =>
                  have htk : tkB x y = false := by unfold tkB; rw [meet_comm, hm]; rfl
                  go_wp2_with (first | ((with_reducible refine gate_dst (N := 137) rfl ?_); refine wpList_load_row rfl 45 (.tmp 14) rfl b14 rfl 45 #[.int .i64 y.f0, .int .i64 y.f1, .bool y.f2, .bool y.f3] (0, 0) _ P14.out hu45 rfl (by kernel_rfl) ?_) | ((with_reducible refine gate_builtin (b := .append) (xs := #[.tmp 136, .tmp 138]) rfl ?_); at_builtin; (refine Kd.R_append k45 (w0 := W17) W17.heap.size rfl (.tmp 136) (.tmp 138) 27 45 (.agg #[.int .i64 0, .int .i64 0, .bool false, .bool false]) 24 rfl Try.underlying27 info45 rfl (by decide) (by omega) u12 K0_ y [.int .i64 y.f0, .int .i64 y.f1, .bool y.f2, .bool y.f3] (fun _ => True) (fun _ => False) rfl rfl ?aP (fun _ hk => hk.elim) ?aF ?aO ?aB ?aS ?aL ?_; (case aP => exact k45_mkM _ _ _ y); (case aF => exact fun k hk => trivial); (case aO => exact RK.out); (case aB => exact HL.out); (case aS => exact HL.out.size); (case aL => have := HLE.out; omega); intro vz w7 ho hb7 hg hat; have HO7 := Aside0.mk ho; have HG7 := Aside0.mk hg; have HT7 := Aside0.mk hat; have HB7 := Aside0.mk hb7; clear ho hb7 hg hat)))
                  go_roundw
                  case rel =>
                    have T1 : ∀ k, k < V1.heap.size → (u12 : Value).ownBlock ≠ some k → (vz : Value).ownBlock ≠ some k := fun k hk hn e => by
                      rcases HT7.out with q | ⟨b_, q1, q2⟩
                      · exact hn (q ▸ e)
                      · rw [q1] at e; injection e with e; omega
                    have ROn := Aside0.mk (Kd.R_mono (Kd.R_move (Kd.R_bound (Rw.own_ RT.out (ok' := fun k => (u11 : Value).ownBlock = some k) (fun k hk => hk))) (fun k hk => HG7.out.block k hk.2.2.1 (fun e => STK.out k hk.1 e.symm))) (ok' := fun _ => True) (fun _ _ => trivial))
                    exact ⟨n + 1, congrArg (Value.int .i64) (by omega), ⟨HLT.out⟩, HB7, ⟨by rw [HF1.out, if_neg (by rw [htk]; exact Bool.noConfusion), List.append_nil]; exact ROn.out⟩, ⟨by rw [HF2.out, if_neg (by rw [htk]; exact Bool.noConfusion)]; exact HO7.out⟩, ⟨fun k hk e => T1 k (Kd.R_lt RT.out k hk) (STK.out k hk) e⟩⟩
                  case measure =>
                    (try rw [hw])
                    show M1.length - ((n : Int) + 1).toNat < M1.length - (n : Int).toNat
                    have := HLT.out
                    omega
                | true =>
                  cases hf : y.f3 with
                  | true =>
                    have htk : tkB x y = false := by unfold tkB; rw [hf]; simp
                    rw [hf] at he3
                    clear hf
                    go_wp2_with (first | ((with_reducible refine gate_dst (N := 137) rfl ?_); refine wpList_load_row rfl 45 (.tmp 14) rfl b14 rfl 45 #[.int .i64 y.f0, .int .i64 y.f1, .bool y.f2, .bool y.f3] (0, 0) _ P14.out hu45 rfl (by kernel_rfl) ?_) | ((with_reducible refine gate_builtin (b := .append) (xs := #[.tmp 136, .tmp 138]) rfl ?_); at_builtin; (refine Kd.R_append k45 (w0 := W17) W17.heap.size rfl (.tmp 136) (.tmp 138) 27 45 (.agg #[.int .i64 0, .int .i64 0, .bool false, .bool false]) 24 rfl Try.underlying27 info45 rfl (by decide) (by omega) u12 K0_ y [.int .i64 y.f0, .int .i64 y.f1, .bool y.f2, .bool y.f3] (fun _ => True) (fun _ => False) rfl rfl ?aP (fun _ hk => hk.elim) ?aF ?aO ?aB ?aS ?aL ?_; (case aP => exact k45_mkM _ _ _ y); (case aF => exact fun k hk => trivial); (case aO => exact RK.out); (case aB => exact HL.out); (case aS => exact HL.out.size); (case aL => have := HLE.out; omega); intro vz w7 ho hb7 hg hat; have HO7 := Aside0.mk ho; have HG7 := Aside0.mk hg; have HT7 := Aside0.mk hat; have HB7 := Aside0.mk hb7; clear ho hb7 hg hat)))
                    go_roundw
                    case rel =>
                      have T1 : ∀ k, k < V1.heap.size → (u12 : Value).ownBlock ≠ some k → (vz : Value).ownBlock ≠ some k := fun k hk hn e => by
                        rcases HT7.out with q | ⟨b_, q1, q2⟩
                        · exact hn (q ▸ e)
                        · rw [q1] at e; injection e with e; omega
                      have ROn := Aside0.mk (Kd.R_mono (Kd.R_move (Kd.R_bound (Rw.own_ RT.out (ok' := fun k => (u11 : Value).ownBlock = some k) (fun k hk => hk))) (fun k hk => HG7.out.block k hk.2.2.1 (fun e => STK.out k hk.1 e.symm))) (ok' := fun _ => True) (fun _ _ => trivial))
                      exact ⟨n + 1, congrArg (Value.int .i64) (by omega), ⟨HLT.out⟩, HB7, ⟨by rw [HF1.out, if_neg (by rw [htk]; exact Bool.noConfusion), List.append_nil]; exact ROn.out⟩, ⟨by rw [HF2.out, if_neg (by rw [htk]; exact Bool.noConfusion)]; exact HO7.out⟩, ⟨fun k hk e => T1 k (Kd.R_lt RT.out k hk) (STK.out k hk) e⟩⟩
                    case measure =>
                      (try rw [hw])
                      show M1.length - ((n : Int) + 1).toNat < M1.length - (n : Int).toNat
                      have := HLT.out
                      omega
                  | false =>
                    rw [hf] at he3
                    have HFF := Aside0.mk hf
                    clear hf
                    by_cases hg : x.f0 < y.f0
                    · have hgd : decide (x.f0 < y.f0) = true := decide_eq_true hg
                      have htk : tkB x y = true := by unfold tkB; rw [meet_comm, hm, HFF.out, hgd]; rfl
                      go_wp2_with (first | ((with_reducible refine gate_dst (N := 133) rfl ?_); refine wpList_load_row rfl 45 (.tmp 14) rfl b14 rfl 45 #[.int .i64 y.f0, .int .i64 y.f1, .bool y.f2, .bool y.f3] (0, 0) _ P14.out hu45 rfl (by kernel_rfl) ?_) | ((with_reducible refine gate_builtin (b := .append) (xs := #[.tmp 132, .tmp 134]) rfl ?_); at_builtin; (refine Kd.R_append k45 (w0 := W17) W17.heap.size rfl (.tmp 132) (.tmp 134) 27 45 (.agg #[.int .i64 0, .int .i64 0, .bool false, .bool false]) 24 rfl Try.underlying27 info45 rfl (by decide) (by omega) u11 T0 y [.int .i64 y.f0, .int .i64 y.f1, .bool y.f2, .bool y.f3] (fun _ => True) (fun _ => False) rfl rfl ?aP (fun _ hk => hk.elim) ?aF ?aO ?aB ?aS ?aL ?_; (case aP => exact k45_mkM _ _ _ y); (case aF => exact fun k hk => trivial); (case aO => exact RT.out); (case aB => exact HL.out); (case aS => exact HL.out.size); (case aL => have := HLE.out; omega); intro vz w7 ho hb7 hg hat; have HO7 := Aside0.mk ho; have HG7 := Aside0.mk hg; have HT7 := Aside0.mk hat; have HB7 := Aside0.mk hb7; clear ho hb7 hg hat)))
                      go_roundw
                      case rel =>
                        have T1 : ∀ k, k < V1.heap.size → (u11 : Value).ownBlock ≠ some k → (vz : Value).ownBlock ≠ some k := fun k hk hn e => by
                          rcases HT7.out with q | ⟨b_, q1, q2⟩
                          · exact hn (q ▸ e)
                          · rw [q1] at e; injection e with e; omega
                        have ROn := Aside0.mk (Kd.R_mono (Kd.R_move (Kd.R_bound (Rw.own_ RK.out (ok' := fun k => (u12 : Value).ownBlock = some k) (fun k hk => hk))) (fun k hk => HG7.out.block k hk.2.2.1 (fun e => STK.out k e.symm hk.1))) (ok' := fun _ => True) (fun _ _ => trivial))
                        exact ⟨n + 1, congrArg (Value.int .i64) (by omega), ⟨HLT.out⟩, HB7, ⟨by rw [HF1.out, if_pos htk]; exact HO7.out⟩, ⟨by rw [HF2.out, if_pos htk, List.append_nil]; exact ROn.out⟩, ⟨fun k hk e => T1 k (Kd.R_lt RK.out k e) (fun e2 => STK.out k e2 e) hk⟩⟩
                      case measure =>
                        (try rw [hw])
                        show M1.length - ((n : Int) + 1).toNat < M1.length - (n : Int).toNat
                        have := HLT.out
                        omega
                    · have hgd : decide (x.f0 < y.f0) = false := decide_eq_false hg
                      have htk : tkB x y = false := by unfold tkB; rw [hgd]; simp
                      go_wp2_with (first | ((with_reducible refine gate_dst (N := 137) rfl ?_); refine wpList_load_row rfl 45 (.tmp 14) rfl b14 rfl 45 #[.int .i64 y.f0, .int .i64 y.f1, .bool y.f2, .bool y.f3] (0, 0) _ P14.out hu45 rfl (by kernel_rfl) ?_) | ((with_reducible refine gate_builtin (b := .append) (xs := #[.tmp 136, .tmp 138]) rfl ?_); at_builtin; (refine Kd.R_append k45 (w0 := W17) W17.heap.size rfl (.tmp 136) (.tmp 138) 27 45 (.agg #[.int .i64 0, .int .i64 0, .bool false, .bool false]) 24 rfl Try.underlying27 info45 rfl (by decide) (by omega) u12 K0_ y [.int .i64 y.f0, .int .i64 y.f1, .bool y.f2, .bool y.f3] (fun _ => True) (fun _ => False) rfl rfl ?aP (fun _ hk => hk.elim) ?aF ?aO ?aB ?aS ?aL ?_; (case aP => exact k45_mkM _ _ _ y); (case aF => exact fun k hk => trivial); (case aO => exact RK.out); (case aB => exact HL.out); (case aS => exact HL.out.size); (case aL => have := HLE.out; omega); intro vz w7 ho hb7 hg hat; have HO7 := Aside0.mk ho; have HG7 := Aside0.mk hg; have HT7 := Aside0.mk hat; have HB7 := Aside0.mk hb7; clear ho hb7 hg hat)))
                      go_roundw
                      case rel =>
                        have T1 : ∀ k, k < V1.heap.size → (u12 : Value).ownBlock ≠ some k → (vz : Value).ownBlock ≠ some k := fun k hk hn e => by
                          rcases HT7.out with q | ⟨b_, q1, q2⟩
                          · exact hn (q ▸ e)
                          · rw [q1] at e; injection e with e; omega
                        have ROn := Aside0.mk (Kd.R_mono (Kd.R_move (Kd.R_bound (Rw.own_ RT.out (ok' := fun k => (u11 : Value).ownBlock = some k) (fun k hk => hk))) (fun k hk => HG7.out.block k hk.2.2.1 (fun e => STK.out k hk.1 e.symm))) (ok' := fun _ => True) (fun _ _ => trivial))
                        exact ⟨n + 1, congrArg (Value.int .i64) (by omega), ⟨HLT.out⟩, HB7, ⟨by rw [HF1.out, if_neg (by rw [htk]; exact Bool.noConfusion), List.append_nil]; exact ROn.out⟩, ⟨by rw [HF2.out, if_neg (by rw [htk]; exact Bool.noConfusion)]; exact HO7.out⟩, ⟨fun k hk e => T1 k (Kd.R_lt RT.out k hk) (STK.out k hk) e⟩⟩
                      case measure =>
                        (try rw [hw])
                        show M1.length - ((n : Int) + 1).toNat < M1.length - (n : Int).toNat
                        have := HLT.out
                        omega
              · obtain rfl : n = M1.length := by have := HX.out; omega
                have hdl : decide (M1.length < M1.length) = false := decide_eq_false hlt
                clear hlt
                rw [List.take_length] at RT RK
                have RTn := Aside0.mk (Rw.of RT.out HB.out.size)
                have RKn := Aside0.mk (Rw.of RK.out HB.out.size)
                have ZR := Aside0.mk hwr
                have P2 := Aside0.mk (blk_below P2.out HL.out)
                have P3 := Aside0.mk (blk_below P3.out HL.out)
                have P4 := Aside0.mk (blk_below P4.out HL.out)
                have P8 := Aside0.mk (blk_below P8.out HL.out)
                have RN := Aside0.mk (Rw.below RN.out HL.out)
                have RD1 := Aside0.mk (Rw.below RD1.out HL.out)
                have RD2 := Aside0.mk (Rw.below RD2.out HL.out)
                have RH := Aside0.mk (Rw.below RH.out HL.out)
                have RW := Aside0.mk (Rw.below RW.out HL.out)
                have HB := Aside0.mk (below_step HB.out HL.out)
                clear P3r P8r RHr hwr RT RK
                generalize hq_ : List.filter (tkB x) M1 = T3 at RTn
                have HT3 := Aside0.mk hq_
                clear hq_
                generalize hq_ : List.filter (fun z => !tkB x z) M1 = L3 at RKn
                have HL3 := Aside0.mk hq_
                clear hq_
                obtain ⟨TA, tc, e0⟩ := Rw.slice RTn.out
                subst e0
                obtain ⟨KA, kc, e0⟩ := Rw.slice RKn.out
                subst e0
                clear hb1
                have hb0 := (blk_cell P8.out 0).trans (show _ = some (.int .i64 s) from rfl)
                have hf0 := blk_frozen P8.out 0
                have hb1 := (blk_cell P8.out 1).trans (show _ = some (.slice H1 M1.length e1) from rfl)
                have hf1 := blk_frozen P8.out 1
                have hb2 := (blk_cell P8.out 2).trans (show _ = some (.slice H2 M2.length e2) from rfl)
                have hf2 := blk_frozen P8.out 2
                have hb3 : L3.length ≤ 16 := by rw [← HL3.out]; exact Nat.le_trans (List.length_filter_le _ _) HM1l.out
                have hb4 : M2.length ≤ 16 := HM2l.out
                have hwl : wrap64 ((L3.length : Int) + (M2.length : Int)) = (L3.length : Int) + (M2.length : Int) := by unfold wrap64; omega
                have hwk : IntKind.i64.wrap ((L3.length : Int) + (M2.length : Int)) = (L3.length : Int) + (M2.length : Int) := by rw [IntKind.wrap_i64]; omega
                have P2 := Aside0.mk (blk_far (p := ⟨b8, 1, none⟩) P2.out (show w.heap.size ≠ b8 by have := G8.out; have := G.out; omega) (.slice KA L3.length kc))
                have P3 := Aside0.mk (blk_far (p := ⟨b8, 1, none⟩) P3.out (show b3 ≠ b8 by have := G8.out; have := G.out; omega) (.slice KA L3.length kc))
                have P4 := Aside0.mk (blk_far (p := ⟨b8, 1, none⟩) P4.out (show b4 ≠ b8 by have := G8.out; have := G.out; omega) (.slice KA L3.length kc))
                have P8 := Aside0.mk (blk_put (cs' := #[.int .i64 s, .slice KA L3.length kc, .slice H2 M2.length e2]) P8.out 1 (.slice KA L3.length kc) rfl)
                have HB := Aside0.mk (below_set (g := b8) (j := 1) (v := .slice KA L3.length kc) HB.out (by have := G8.out; have := G.out; omega))
                have RN := Aside0.mk (Rw.cell (b := b8) (j := 1) (u := .slice KA L3.length kc) RN.out (Or.inr (by have := ZB8.out; have := Z2.out; have := Z3.out; omega)))
                have RD1 := Aside0.mk (Rw.cell (b := b8) (j := 1) (u := .slice KA L3.length kc) RD1.out (Or.inr (by have := ZB8.out; omega)))
                have RD2 := Aside0.mk (Rw.cell (b := b8) (j := 1) (u := .slice KA L3.length kc) RD2.out (Or.inr (by have := ZB8.out; omega)))
                have RH := Aside0.mk (Rw.cell (b := b8) (j := 1) (u := .slice KA L3.length kc) RH.out (Or.inl (by have := Z13.out; omega)))
                have RW := Aside0.mk (Rw.cell (b := b8) (j := 1) (u := .slice KA L3.length kc) RW.out (Or.inl (by have := Z13.out; have := ZW14.out; have := YW15.out; omega)))
                have RTn := Aside0.mk (Rw.cell (b := b8) (j := 1) (u := .slice KA L3.length kc) RTn.out (Or.inl (by have := Z13.out; have := ZW14.out; have := YW15.out; have := ZW16.out; have := YW17.out; omega)))
                have RKn := Aside0.mk (Rw.cell (b := b8) (j := 1) (u := .slice KA L3.length kc) RKn.out (Or.inl (by have := Z13.out; have := ZW14.out; have := YW15.out; have := ZW16.out; have := YW17.out; omega)))
                have YV2 := Aside0.mk (show wr.heap.size ≤ (wr.setCell ⟨b8, 1, none⟩ (.slice KA L3.length kc)).heap.size by simp)
                by_cases hroom : 16 ≤ L3.length + M2.length
                · have hdr : decide ((15 : Int) < (L3.length : Int) + (M2.length : Int)) = true := decide_eq_true (by omega)
                  have HROOM := Aside0.mk hroom
                  clear hroom
                  go_wp2_with (((with_reducible refine gate_dst (N := 150) rfl ?_); refine wpList_load_row rfl 29 (.tmp 2) rfl w.heap.size rfl 29 #[.int .i64 s, .slice A1 l1.length c1, .slice A2 l2.length c2] (0, 0) _ P2.out hu29 rfl (by kernel_rfl) ?_))
                  have hh := HH.out
                  unfold askF at hh
                  rw [if_neg (show ¬ (lockB s l1 l2 = false) by rw [HOK.out]; exact Bool.noConfusion), if_neg (show ¬ (holdB x = false ∨ x.f3 = true) by rw [HHO.out, HF3.out]; simp), if_neg HNP.out, if_neg HNQ.out] at hh
                  unfold tailF at hh
                  rw [HM1.out, HM2.out, HL3.out, HT3.out] at hh
                  rw [if_pos HROOM.out] at hh
                  simp only [Prod.mk.injEq] at hh
                  obtain ⟨rfl, rfl, rfl, rfl, rfl⟩ := hh
                  clear hb0 hb1 hb2 hf0 hf1 hf2
                  generalize (wr.setCell ⟨b8, 1, none⟩ (.slice KA L3.length kc)) = V2 at P2 P3 P4 P8 HB RN RD1 RD2 RH RW RTn RKn YV2 ⊢
                  refine (spec_l11Copy.calls s A1 c1 l1 A2 c2 l2 s l1 l2 V2 (Kd.C_below HR1.out HB.out) HC1.out (Kd.C_below HR2.out HB.out) HC2.out HCO.out).mono ?_
                  rintro e V3 ⟨v1, v2, rfl, q1, q2, hb⟩
                  obtain ⟨E1, f1_, e0⟩ := Kd.R_slice q1
                  subst e0
                  obtain ⟨E2, f2_, e0⟩ := Kd.R_slice q2
                  subst e0
                  have SE := Aside0.mk (show ∀ k, (Value.slice E1 l1.length f1_).ownBlock = some k → (Value.slice E2 l2.length f2_).ownBlock ≠ some k from fun k hk e => (q1.1 k hk) e.symm)
                  have q1 := Rw.of q1 HB.out.size
                  have q2 := Rw.of q2 HB.out.size
                  have P2 := Aside0.mk (blk_below P2.out hb)
                  have P3 := Aside0.mk (blk_below P3.out hb)
                  have P4 := Aside0.mk (blk_below P4.out hb)
                  have P8 := Aside0.mk (blk_below P8.out hb)
                  have RN := Aside0.mk (Rw.below RN.out hb)
                  have RD1 := Aside0.mk (Rw.below RD1.out hb)
                  have RD2 := Aside0.mk (Rw.below RD2.out hb)
                  have RH := Aside0.mk (Rw.below RH.out hb)
                  have RW := Aside0.mk (Rw.below RW.out hb)
                  have RTn := Aside0.mk (Rw.below RTn.out hb)
                  have RKn := Aside0.mk (Rw.below RKn.out hb)
                  have HB := Aside0.mk (below_step HB.out hb)
                  clear hb
                  have RE1 := Aside0.mk q1
                  have RE2 := Aside0.mk q2
                  clear q1 q2
                  clear hwl hwk hdr hb3 hb4
                  go_wp2_with (((with_reducible refine gate_store (t := 29) (p := 4) rfl ?_); (refine wpList_store_row rfl 29 (.tmp 4) (.tmp 151) rfl b4 #[.int .i64 s, .slice E1 l1.length f1_, .slice E2 l2.length f2_] rfl rfl 29 #[.int .i64 0, .slice none 0 0, .slice none 0 0] P4.out (by kernel_rfl) rfl (by simp [Value.oneCell']) ?_; have P4 := Aside0.mk (setRow_heap V3 b4 _ #[.int .i64 s, .slice E1 l1.length f1_, .slice E2 l2.length f2_] 29 (0, 0) P4.out); have HS := Aside0.mk (below_setRow' (Below.refl b4 V3) (Nat.le_refl b4) #[.int .i64 s, .slice E1 l1.length f1_, .slice E2 l2.length f2_]); have RN := Aside0.mk (Rw.row_ne RN.out #[.int .i64 s, .slice E1 l1.length f1_, .slice E2 l2.length f2_] (b := b4) NN4.out); have RE1 := Aside0.mk (Rw.row_ne RE1.out #[.int .i64 s, .slice E1 l1.length f1_, .slice E2 l2.length f2_] (b := b4) (fun e => by have := RE1.out.at_ e; have := G8.out; have := ZR.out; have := Z13.out; have := ZW14.out; have := YW15.out; have := ZW16.out; have := YW17.out; have := YV2.out; omega)); have RE2 := Aside0.mk (Rw.row_ne RE2.out #[.int .i64 s, .slice E1 l1.length f1_, .slice E2 l2.length f2_] (b := b4) (fun e => by have := RE2.out.at_ e; have := G8.out; have := ZR.out; have := Z13.out; have := ZW14.out; have := YW15.out; have := ZW16.out; have := YW17.out; have := YV2.out; omega)); generalize V3.setRow b4 #[.int .i64 s, .slice E1 l1.length f1_, .slice E2 l2.length f2_] = V4 at P4 HS RN RE1 RE2 ⊢; refine Aside0.out ?_)))
                  refine Aside0.mk ?_
                  iterate 12 (try go_step)
                  refine bodyPost_ret (results_ctt rfl _ _ b4 29 #[.int .i64 s, .slice E1 l1.length f1_, .slice E2 l2.length f2_] (0, 0) _ rfl P4.out hu29 rfl (by kernel_rfl)) rfl ?_
                  exact ⟨_, _, _, rfl, Rw.own_ RE1.out (fun k hk => ⟨fun e => SE.out k hk e.symm, fun e => by have := RN.out.at_ e.symm; have := RE1.out.at_ hk; have := Z2.out; have := Z3.out; have := ZB8.out; have := G8.out; have := ZR.out; have := Z13.out; have := ZW14.out; have := YW15.out; have := ZW16.out; have := YW17.out; have := YV2.out; omega⟩), Rw.own_ RE2.out (fun k hk => ⟨fun e => SE.out k e.symm hk, fun e => by have := RN.out.at_ e.symm; have := RE2.out.at_ hk; have := Z2.out; have := Z3.out; have := ZB8.out; have := G8.out; have := ZR.out; have := Z13.out; have := ZW14.out; have := YW15.out; have := ZW16.out; have := YW17.out; have := YV2.out; omega⟩), Rw.own_ RN.out (fun k hk => ⟨fun e => by have := RN.out.at_ hk; have := RE1.out.at_ e.symm; have := Z2.out; have := Z3.out; have := ZB8.out; have := G8.out; have := ZR.out; have := Z13.out; have := ZW14.out; have := YW15.out; have := ZW16.out; have := YW17.out; have := YV2.out; omega, fun e => by have := RN.out.at_ hk; have := RE2.out.at_ e.symm; have := Z2.out; have := Z3.out; have := ZB8.out; have := G8.out; have := ZR.out; have := Z13.out; have := ZW14.out; have := YW15.out; have := ZW16.out; have := YW17.out; have := YV2.out; omega⟩), HB.out.trans (HS.out.mono (by have := G.out; omega))⟩
                · have hdr : decide ((15 : Int) < (L3.length : Int) + (M2.length : Int)) = false := decide_eq_false (by omega)
                  have HROOM := Aside0.mk hroom
                  clear hroom
                  go_wp2_with (first | ((with_reducible refine gate_dst (N := 153) rfl ?_); refine wpList_load_row rfl 29 (.tmp 8) rfl b8 rfl 29 #[.int .i64 s, .slice KA L3.length kc, .slice H2 M2.length e2] (0, 0) _ P8.out hu29 rfl (by kernel_rfl) ?_) | ((with_reducible refine gate_dst (N := 154) rfl ?_); refine wpList_load_row rfl 45 (.tmp 3) rfl b3 rfl 45 #[.int .i64 x.f0, .int .i64 x.f1, .bool x.f2, .bool x.f3] (0, 0) _ P3.out hu45 rfl (by kernel_rfl) ?_))
                  clear hb0 hb1 hb2 hf0 hf1 hf2
                  generalize (wr.setCell ⟨b8, 1, none⟩ (.slice KA L3.length kc)) = V2 at P2 P3 P4 P8 HB RN RD1 RD2 RH RW RTn RKn YV2 ⊢
                  clear hwl hwk hdr
                  have HB3 := Aside0.mk hb3
                  have HB4 := Aside0.mk hb4
                  clear hb3 hb4
                  have HAL : Aside0 (Asc L3) := ⟨by rw [← HL3.out, ← HM1.out]; exact (HA1.out.filter _).filter _⟩
                  have HAW : Aside0 (Asc M2) := ⟨by rw [← HM2.out]; exact HA2.out.filter _⟩
                  have HHL : Aside0 (hasOf L3 x.f0 = false) := ⟨by rw [← HL3.out, ← HM1.out]; exact has_gone l1 x.f0 _⟩
                  have HHW : Aside0 (hasOf M2 x.f0 = false) := ⟨by rw [← HM2.out]; exact has_gone1 l2 x.f0⟩
                  obtain ⟨K1, k1⟩ := may_ev s L3 M2 x (by have := HB3.out; omega) (by have := HB4.out; omega)
                  have kk := k1 K1 (Nat.le_refl _)
                  clear k1
                  refine (spec_l11May.calls K1 s KA kc L3 H2 e2 M2 x.f0 x.f1 x.f2 x.f3 (mayB L3 M2 x) V2 (RKn.out.reads).2.2 (RKn.out.reads).2.1 (RW.out.reads).2.2 (RW.out.reads).2.1 kk).mono ?_
                  rintro e V3 ⟨rfl, hb⟩
                  clear kk
                  have ZV3 := Aside0.mk hb.size
                  have P2 := Aside0.mk (blk_below P2.out hb)
                  have P3 := Aside0.mk (blk_below P3.out hb)
                  have P4 := Aside0.mk (blk_below P4.out hb)
                  have P8 := Aside0.mk (blk_below P8.out hb)
                  have RN := Aside0.mk (Rw.below RN.out hb)
                  have RD1 := Aside0.mk (Rw.below RD1.out hb)
                  have RD2 := Aside0.mk (Rw.below RD2.out hb)
                  have RH := Aside0.mk (Rw.below RH.out hb)
                  have RW := Aside0.mk (Rw.below RW.out hb)
                  have RTn := Aside0.mk (Rw.below RTn.out hb)
                  have RKn := Aside0.mk (Rw.below RKn.out hb)
                  have HB := Aside0.mk (below_step HB.out hb)
                  clear hb
                  cases hmay : mayB L3 M2 x with
                  | true =>
                    have HMAY := Aside0.mk hmay
                    clear hmay
                    have hb0 := (blk_cell P8.out 0).trans (show _ = some (.int .i64 s) from rfl)
                    have hf0 := blk_frozen P8.out 0
                    have hb1 := (blk_cell P8.out 1).trans (show _ = some (.slice KA L3.length kc) from rfl)
                    have hf1 := blk_frozen P8.out 1
                    have hb2 := (blk_cell P8.out 2).trans (show _ = some (.slice H2 M2.length e2) from rfl)
                    have hf2 := blk_frozen P8.out 2
                    go_wp2_with (((with_reducible refine gate_dst (N := 158) rfl ?_); refine wpList_load_row rfl 45 (.tmp 3) rfl b3 rfl 45 #[.int .i64 x.f0, .int .i64 x.f1, .bool x.f2, .bool x.f3] (0, 0) _ P3.out hu45 rfl (by kernel_rfl) ?_))
                    clear hb0 hb1 hb2 hf0 hf1 hf2
                    obtain ⟨K1, k1⟩ := put_ev L3 x (by have := HB3.out; have := HB4.out; omega) HAL.out HHL.out
                    have kk := k1 K1 (Nat.le_refl _)
                    clear k1
                    refine (spec_l11Put.calls K1 KA kc L3 x.f0 x.f1 x.f2 x.f3 (putOf L3 x) V3 (RKn.out.reads).2.2 (RKn.out.reads).2.1 kk).mono ?_
                    rintro e V4 ⟨vq, rfl, q1, hb⟩
                    clear kk
                    obtain ⟨HQ5, eq5, e0⟩ := Kd.R_slice q1
                    subst e0
                    have q1 := Rw.of q1 HB.out.size
                    have P2 := Aside0.mk (blk_below P2.out hb)
                    have P3 := Aside0.mk (blk_below P3.out hb)
                    have P4 := Aside0.mk (blk_below P4.out hb)
                    have P8 := Aside0.mk (blk_below P8.out hb)
                    have RN := Aside0.mk (Rw.below RN.out hb)
                    have RD1 := Aside0.mk (Rw.below RD1.out hb)
                    have RD2 := Aside0.mk (Rw.below RD2.out hb)
                    have RH := Aside0.mk (Rw.below RH.out hb)
                    have RW := Aside0.mk (Rw.below RW.out hb)
                    have RTn := Aside0.mk (Rw.below RTn.out hb)
                    have RKn := Aside0.mk (Rw.below RKn.out hb)
                    have HB := Aside0.mk (below_step HB.out hb)
                    clear hb
                    have RQ := Aside0.mk q1
                    clear q1
                    generalize hq_ : putOf L3 x = Q5 at RQ ⊢
                    have HQ5_ := Aside0.mk hq_
                    clear hq_
                    have hb0 := (blk_cell P8.out 0).trans (show _ = some (.int .i64 s) from rfl)
                    have hf0 := blk_frozen P8.out 0
                    have hb1 := (blk_cell P8.out 1).trans (show _ = some (.slice KA L3.length kc) from rfl)
                    have hf1 := blk_frozen P8.out 1
                    have hb2 := (blk_cell P8.out 2).trans (show _ = some (.slice H2 M2.length e2) from rfl)
                    have hf2 := blk_frozen P8.out 2
                    have P2 := Aside0.mk (blk_far (p := ⟨b8, 1, none⟩) P2.out (show w.heap.size ≠ b8 by have := G8.out; have := G.out; omega) (.slice HQ5 Q5.length eq5))
                    have P3 := Aside0.mk (blk_far (p := ⟨b8, 1, none⟩) P3.out (show b3 ≠ b8 by have := G8.out; have := G.out; omega) (.slice HQ5 Q5.length eq5))
                    have P4 := Aside0.mk (blk_far (p := ⟨b8, 1, none⟩) P4.out (show b4 ≠ b8 by have := G8.out; have := G.out; omega) (.slice HQ5 Q5.length eq5))
                    have P8 := Aside0.mk (blk_put (cs' := #[.int .i64 s, .slice HQ5 Q5.length eq5, .slice H2 M2.length e2]) P8.out 1 (.slice HQ5 Q5.length eq5) rfl)
                    have HB := Aside0.mk (below_set (g := b8) (j := 1) (v := .slice HQ5 Q5.length eq5) HB.out (by have := G8.out; have := G.out; omega))
                    have RN := Aside0.mk (Rw.cell (b := b8) (j := 1) (u := .slice HQ5 Q5.length eq5) RN.out (Or.inr (by have := ZB8.out; have := Z2.out; have := Z3.out; omega)))
                    have RD1 := Aside0.mk (Rw.cell (b := b8) (j := 1) (u := .slice HQ5 Q5.length eq5) RD1.out (Or.inr (by have := ZB8.out; omega)))
                    have RD2 := Aside0.mk (Rw.cell (b := b8) (j := 1) (u := .slice HQ5 Q5.length eq5) RD2.out (Or.inr (by have := ZB8.out; omega)))
                    have RH := Aside0.mk (Rw.cell (b := b8) (j := 1) (u := .slice HQ5 Q5.length eq5) RH.out (Or.inl (by have := Z13.out; omega)))
                    have RW := Aside0.mk (Rw.cell (b := b8) (j := 1) (u := .slice HQ5 Q5.length eq5) RW.out (Or.inl (by have := Z13.out; have := ZW14.out; have := YW15.out; omega)))
                    have RTn := Aside0.mk (Rw.cell (b := b8) (j := 1) (u := .slice HQ5 Q5.length eq5) RTn.out (Or.inl (by have := Z13.out; have := ZW14.out; have := YW15.out; have := ZW16.out; have := YW17.out; omega)))
                    have RKn := Aside0.mk (Rw.cell (b := b8) (j := 1) (u := .slice HQ5 Q5.length eq5) RKn.out (Or.inl (by have := Z13.out; have := ZW14.out; have := YW15.out; have := ZW16.out; have := YW17.out; omega)))
                    have RQ := Aside0.mk (Rw.cell (b := b8) (j := 1) (u := .slice HQ5 Q5.length eq5) RQ.out (Or.inl (by have := ZV3.out; have := ZR.out; have := Z13.out; have := ZW14.out; have := YW15.out; have := ZW16.out; have := YW17.out; have := YV2.out; omega)))
                    have YV5 := Aside0.mk (show V4.heap.size ≤ (V4.setCell ⟨b8, 1, none⟩ (.slice HQ5 Q5.length eq5)).heap.size by simp)
                    go_wp2_with (first | ((with_reducible refine gate_dst (N := 161) rfl ?_); refine wpList_load_row rfl 29 (.tmp 8) rfl b8 rfl 29 #[.int .i64 s, .slice HQ5 Q5.length eq5, .slice H2 M2.length e2] (0, 0) _ P8.out hu29 rfl (by kernel_rfl) ?_) | ((with_reducible refine gate_store (t := 29) (p := 4) rfl ?_); (refine wpList_store_row rfl 29 (.tmp 4) (.tmp 161) rfl b4 #[.int .i64 s, .slice HQ5 Q5.length eq5, .slice H2 M2.length e2] rfl rfl 29 #[.int .i64 0, .slice none 0 0, .slice none 0 0] P4.out (by kernel_rfl) rfl (by simp [Value.oneCell']) ?_; have P4 := Aside0.mk (setRow_heap (V4.setCell ⟨b8, 1, none⟩ (.slice HQ5 Q5.length eq5)) b4 _ #[.int .i64 s, .slice HQ5 Q5.length eq5, .slice H2 M2.length e2] 29 (0, 0) P4.out); have HS := Aside0.mk (below_setRow' (Below.refl b4 (V4.setCell ⟨b8, 1, none⟩ (.slice HQ5 Q5.length eq5))) (Nat.le_refl b4) #[.int .i64 s, .slice HQ5 Q5.length eq5, .slice H2 M2.length e2]); have RQ := Aside0.mk (Rw.row_ne RQ.out #[.int .i64 s, .slice HQ5 Q5.length eq5, .slice H2 M2.length e2] (b := b4) (fun e => by have := RQ.out.at_ e; have := G8.out; have := ZV3.out; have := ZR.out; have := Z13.out; have := ZW14.out; have := YW15.out; have := ZW16.out; have := YW17.out; have := YV2.out; omega)); have RW := Aside0.mk (Rw.row_ne RW.out #[.int .i64 s, .slice HQ5 Q5.length eq5, .slice H2 M2.length e2] (b := b4) (fun e => by have := RW.out.at_ e; have := G8.out; have := Z13.out; have := ZW14.out; have := YW15.out; omega)); have RTn := Aside0.mk (Rw.row_ne RTn.out #[.int .i64 s, .slice HQ5 Q5.length eq5, .slice H2 M2.length e2] (b := b4) (fun e => by have := RTn.out.at_ e; have := G8.out; have := Z13.out; have := ZW14.out; have := YW15.out; have := ZW16.out; have := YW17.out; omega)); generalize (V4.setCell ⟨b8, 1, none⟩ (.slice HQ5 Q5.length eq5)).setRow b4 #[.int .i64 s, .slice HQ5 Q5.length eq5, .slice H2 M2.length e2] = V6 at P4 HS RQ RW RTn ⊢; refine Aside0.out ?_)))
                    refine Aside0.mk ?_
                    iterate 12 (try go_step)
                    refine bodyPost_ret (results_ctt rfl _ _ b4 29 #[.int .i64 s, .slice HQ5 Q5.length eq5, .slice H2 M2.length e2] (0, 0) _ rfl P4.out hu29 rfl (by kernel_rfl)) rfl ?_
                    have hh := HH.out
                    unfold askF at hh
                    rw [if_neg (show ¬ (lockB s l1 l2 = false) by rw [HOK.out]; exact Bool.noConfusion), if_neg (show ¬ (holdB x = false ∨ x.f3 = true) by rw [HHO.out, HF3.out]; simp), if_neg HNP.out, if_neg HNQ.out] at hh
                    unfold tailF at hh
                    rw [HM1.out, HM2.out, HL3.out, HT3.out] at hh
                    rw [if_neg HROOM.out, if_pos HMAY.out, HQ5_.out] at hh
                    simp only [Prod.mk.injEq] at hh
                    obtain ⟨rfl, rfl, rfl, rfl, rfl⟩ := hh
                    exact ⟨_, _, _, rfl, Rw.own_ RQ.out (fun k hk => ⟨fun e => by have := RQ.out.at_ hk; have := RW.out.at_ e.symm; have := ZR.out; have := Z13.out; have := ZW14.out; have := YW15.out; have := ZW16.out; have := YW17.out; have := YV2.out; have := ZV3.out; omega, fun e => by have := RQ.out.at_ hk; have := RTn.out.at_ e.symm; have := ZR.out; have := Z13.out; have := ZW14.out; have := YW15.out; have := ZW16.out; have := YW17.out; have := YV2.out; have := ZV3.out; omega⟩), Rw.own_ RW.out (fun k hk => ⟨fun e => by have := RQ.out.at_ e.symm; have := RW.out.at_ hk; have := ZR.out; have := Z13.out; have := ZW14.out; have := YW15.out; have := ZW16.out; have := YW17.out; have := YV2.out; have := ZV3.out; omega, fun e => by have := RW.out.at_ hk; have := RTn.out.at_ e.symm; have := ZR.out; have := Z13.out; have := ZW14.out; have := YW15.out; have := ZW16.out; have := YW17.out; have := YV2.out; have := ZV3.out; omega⟩), Rw.own_ RTn.out (fun k hk => ⟨fun e => by have := RQ.out.at_ e.symm; have := RTn.out.at_ hk; have := ZR.out; have := Z13.out; have := ZW14.out; have := YW15.out; have := ZW16.out; have := YW17.out; have := YV2.out; have := ZV3.out; omega, fun e => by have := RW.out.at_ e.symm; have := RTn.out.at_ hk; have := ZR.out; have := Z13.out; have := ZW14.out; have := YW15.out; have := ZW16.out; have := YW17.out; have := YV2.out; have := ZV3.out; omega⟩), HB.out.trans (HS.out.mono (by have := G.out; omega))⟩
                  | false =>
                    have HMAY := Aside0.mk hmay
                    clear hmay
                    have hb0 := (blk_cell P8.out 0).trans (show _ = some (.int .i64 s) from rfl)
                    have hf0 := blk_frozen P8.out 0
                    have hb1 := (blk_cell P8.out 1).trans (show _ = some (.slice KA L3.length kc) from rfl)
                    have hf1 := blk_frozen P8.out 1
                    have hb2 := (blk_cell P8.out 2).trans (show _ = some (.slice H2 M2.length e2) from rfl)
                    have hf2 := blk_frozen P8.out 2
                    go_wp2_with (((with_reducible refine gate_dst (N := 165) rfl ?_); refine wpList_load_row rfl 45 (.tmp 3) rfl b3 rfl 45 #[.int .i64 x.f0, .int .i64 x.f1, .bool x.f2, .bool x.f3] (0, 0) _ P3.out hu45 rfl (by kernel_rfl) ?_))
                    clear hb0 hb1 hb2 hf0 hf1 hf2
                    obtain ⟨K1, k1⟩ := put_ev M2 x (by have := HB3.out; have := HB4.out; omega) HAW.out HHW.out
                    have kk := k1 K1 (Nat.le_refl _)
                    clear k1
                    refine (spec_l11Put.calls K1 H2 e2 M2 x.f0 x.f1 x.f2 x.f3 (putOf M2 x) V3 (RW.out.reads).2.2 (RW.out.reads).2.1 kk).mono ?_
                    rintro e V4 ⟨vq, rfl, q1, hb⟩
                    clear kk
                    obtain ⟨HQ5, eq5, e0⟩ := Kd.R_slice q1
                    subst e0
                    have q1 := Rw.of q1 HB.out.size
                    have P2 := Aside0.mk (blk_below P2.out hb)
                    have P3 := Aside0.mk (blk_below P3.out hb)
                    have P4 := Aside0.mk (blk_below P4.out hb)
                    have P8 := Aside0.mk (blk_below P8.out hb)
                    have RN := Aside0.mk (Rw.below RN.out hb)
                    have RD1 := Aside0.mk (Rw.below RD1.out hb)
                    have RD2 := Aside0.mk (Rw.below RD2.out hb)
                    have RH := Aside0.mk (Rw.below RH.out hb)
                    have RW := Aside0.mk (Rw.below RW.out hb)
                    have RTn := Aside0.mk (Rw.below RTn.out hb)
                    have RKn := Aside0.mk (Rw.below RKn.out hb)
                    have HB := Aside0.mk (below_step HB.out hb)
                    clear hb
                    have RQ := Aside0.mk q1
                    clear q1
                    generalize hq_ : putOf M2 x = Q5 at RQ ⊢
                    have HQ5_ := Aside0.mk hq_
                    clear hq_
                    have hb0 := (blk_cell P8.out 0).trans (show _ = some (.int .i64 s) from rfl)
                    have hf0 := blk_frozen P8.out 0
                    have hb1 := (blk_cell P8.out 1).trans (show _ = some (.slice KA L3.length kc) from rfl)
                    have hf1 := blk_frozen P8.out 1
                    have hb2 := (blk_cell P8.out 2).trans (show _ = some (.slice H2 M2.length e2) from rfl)
                    have hf2 := blk_frozen P8.out 2
                    have P2 := Aside0.mk (blk_far (p := ⟨b8, 2, none⟩) P2.out (show w.heap.size ≠ b8 by have := G8.out; have := G.out; omega) (.slice HQ5 Q5.length eq5))
                    have P3 := Aside0.mk (blk_far (p := ⟨b8, 2, none⟩) P3.out (show b3 ≠ b8 by have := G8.out; have := G.out; omega) (.slice HQ5 Q5.length eq5))
                    have P4 := Aside0.mk (blk_far (p := ⟨b8, 2, none⟩) P4.out (show b4 ≠ b8 by have := G8.out; have := G.out; omega) (.slice HQ5 Q5.length eq5))
                    have P8 := Aside0.mk (blk_put (cs' := #[.int .i64 s, .slice KA L3.length kc, .slice HQ5 Q5.length eq5]) P8.out 2 (.slice HQ5 Q5.length eq5) rfl)
                    have HB := Aside0.mk (below_set (g := b8) (j := 2) (v := .slice HQ5 Q5.length eq5) HB.out (by have := G8.out; have := G.out; omega))
                    have RN := Aside0.mk (Rw.cell (b := b8) (j := 2) (u := .slice HQ5 Q5.length eq5) RN.out (Or.inr (by have := ZB8.out; have := Z2.out; have := Z3.out; omega)))
                    have RD1 := Aside0.mk (Rw.cell (b := b8) (j := 2) (u := .slice HQ5 Q5.length eq5) RD1.out (Or.inr (by have := ZB8.out; omega)))
                    have RD2 := Aside0.mk (Rw.cell (b := b8) (j := 2) (u := .slice HQ5 Q5.length eq5) RD2.out (Or.inr (by have := ZB8.out; omega)))
                    have RH := Aside0.mk (Rw.cell (b := b8) (j := 2) (u := .slice HQ5 Q5.length eq5) RH.out (Or.inl (by have := Z13.out; omega)))
                    have RW := Aside0.mk (Rw.cell (b := b8) (j := 2) (u := .slice HQ5 Q5.length eq5) RW.out (Or.inl (by have := Z13.out; have := ZW14.out; have := YW15.out; omega)))
                    have RTn := Aside0.mk (Rw.cell (b := b8) (j := 2) (u := .slice HQ5 Q5.length eq5) RTn.out (Or.inl (by have := Z13.out; have := ZW14.out; have := YW15.out; have := ZW16.out; have := YW17.out; omega)))
                    have RKn := Aside0.mk (Rw.cell (b := b8) (j := 2) (u := .slice HQ5 Q5.length eq5) RKn.out (Or.inl (by have := Z13.out; have := ZW14.out; have := YW15.out; have := ZW16.out; have := YW17.out; omega)))
                    have RQ := Aside0.mk (Rw.cell (b := b8) (j := 2) (u := .slice HQ5 Q5.length eq5) RQ.out (Or.inl (by have := ZV3.out; have := ZR.out; have := Z13.out; have := ZW14.out; have := YW15.out; have := ZW16.out; have := YW17.out; have := YV2.out; omega)))
                    have YV5 := Aside0.mk (show V4.heap.size ≤ (V4.setCell ⟨b8, 2, none⟩ (.slice HQ5 Q5.length eq5)).heap.size by simp)
                    go_wp2_with (first | ((with_reducible refine gate_dst (N := 168) rfl ?_); refine wpList_load_row rfl 29 (.tmp 8) rfl b8 rfl 29 #[.int .i64 s, .slice KA L3.length kc, .slice HQ5 Q5.length eq5] (0, 0) _ P8.out hu29 rfl (by kernel_rfl) ?_) | ((with_reducible refine gate_store (t := 29) (p := 4) rfl ?_); (refine wpList_store_row rfl 29 (.tmp 4) (.tmp 168) rfl b4 #[.int .i64 s, .slice KA L3.length kc, .slice HQ5 Q5.length eq5] rfl rfl 29 #[.int .i64 0, .slice none 0 0, .slice none 0 0] P4.out (by kernel_rfl) rfl (by simp [Value.oneCell']) ?_; have P4 := Aside0.mk (setRow_heap (V4.setCell ⟨b8, 2, none⟩ (.slice HQ5 Q5.length eq5)) b4 _ #[.int .i64 s, .slice KA L3.length kc, .slice HQ5 Q5.length eq5] 29 (0, 0) P4.out); have HS := Aside0.mk (below_setRow' (Below.refl b4 (V4.setCell ⟨b8, 2, none⟩ (.slice HQ5 Q5.length eq5))) (Nat.le_refl b4) #[.int .i64 s, .slice KA L3.length kc, .slice HQ5 Q5.length eq5]); have RKn := Aside0.mk (Rw.row_ne RKn.out #[.int .i64 s, .slice KA L3.length kc, .slice HQ5 Q5.length eq5] (b := b4) (fun e => by have := RKn.out.at_ e; have := G8.out; have := Z13.out; have := ZW14.out; have := YW15.out; have := ZW16.out; have := YW17.out; omega)); have RQ := Aside0.mk (Rw.row_ne RQ.out #[.int .i64 s, .slice KA L3.length kc, .slice HQ5 Q5.length eq5] (b := b4) (fun e => by have := RQ.out.at_ e; have := G8.out; have := ZV3.out; have := ZR.out; have := Z13.out; have := ZW14.out; have := YW15.out; have := ZW16.out; have := YW17.out; have := YV2.out; omega)); have RTn := Aside0.mk (Rw.row_ne RTn.out #[.int .i64 s, .slice KA L3.length kc, .slice HQ5 Q5.length eq5] (b := b4) (fun e => by have := RTn.out.at_ e; have := G8.out; have := Z13.out; have := ZW14.out; have := YW15.out; have := ZW16.out; have := YW17.out; omega)); generalize (V4.setCell ⟨b8, 2, none⟩ (.slice HQ5 Q5.length eq5)).setRow b4 #[.int .i64 s, .slice KA L3.length kc, .slice HQ5 Q5.length eq5] = V6 at P4 HS RKn RQ RTn ⊢; refine Aside0.out ?_)))
                    refine Aside0.mk ?_
                    iterate 12 (try go_step)
                    refine bodyPost_ret (results_ctt rfl _ _ b4 29 #[.int .i64 s, .slice KA L3.length kc, .slice HQ5 Q5.length eq5] (0, 0) _ rfl P4.out hu29 rfl (by kernel_rfl)) rfl ?_
                    have hh := HH.out
                    unfold askF at hh
                    rw [if_neg (show ¬ (lockB s l1 l2 = false) by rw [HOK.out]; exact Bool.noConfusion), if_neg (show ¬ (holdB x = false ∨ x.f3 = true) by rw [HHO.out, HF3.out]; simp), if_neg HNP.out, if_neg HNQ.out] at hh
                    unfold tailF at hh
                    rw [HM1.out, HM2.out, HL3.out, HT3.out] at hh
                    rw [if_neg HROOM.out, if_neg (show ¬ (mayB L3 M2 x = true) by rw [HMAY.out]; exact Bool.noConfusion), HQ5_.out] at hh
                    simp only [Prod.mk.injEq] at hh
                    obtain ⟨rfl, rfl, rfl, rfl, rfl⟩ := hh
                    exact ⟨_, _, _, rfl, Rw.own_ RKn.out (fun k hk => ⟨fun e => by have := RKn.out.at_ hk; have := RQ.out.at_ e.symm; have := ZR.out; have := Z13.out; have := ZW14.out; have := YW15.out; have := ZW16.out; have := YW17.out; have := YV2.out; have := ZV3.out; omega, fun e => STK.out k e.symm hk⟩), Rw.own_ RQ.out (fun k hk => ⟨fun e => by have := RKn.out.at_ e.symm; have := RQ.out.at_ hk; have := ZR.out; have := Z13.out; have := ZW14.out; have := YW15.out; have := ZW16.out; have := YW17.out; have := YV2.out; have := ZV3.out; omega, fun e => by have := RQ.out.at_ hk; have := RTn.out.at_ e.symm; have := ZR.out; have := Z13.out; have := ZW14.out; have := YW15.out; have := ZW16.out; have := YW17.out; have := YV2.out; have := ZV3.out; omega⟩), Rw.own_ RTn.out (fun k hk => ⟨fun e => STK.out k hk e.symm, fun e => by have := RQ.out.at_ e.symm; have := RTn.out.at_ hk; have := ZR.out; have := Z13.out; have := ZW14.out; have := YW15.out; have := ZW16.out; have := YW17.out; have := YV2.out; have := ZV3.out; omega⟩), HB.out.trans (HS.out.mono (by have := G.out; omega))⟩
end Go.Proofs.Ytjldpnhlegbjkaa.PA
