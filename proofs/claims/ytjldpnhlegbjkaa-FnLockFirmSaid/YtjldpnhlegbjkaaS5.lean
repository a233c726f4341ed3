/- What spec.LockFree comes to. -/
import Derived.Test.YtjldpnhlegbjkaaOkH
import Derived.Test.YtjldpnhlegbjkaaSpecPa
namespace Go.Proofs.Ytjldpnhlegbjkaa.PA
open Go.RowKit Go.Proofs.YtjldpnhlegbjkaaW.PrintWords Go.Proofs.YtjldpnhlegbjkaaW.PrintLast Go.Proofs.YtjldpnhlegbjkaaW.PrintMore Go.Proofs.Ytjldpnhlegbjkaa.PB
attribute [local go_sem] max2_int min2_int max_two min_two max_three min_three max_four min_four
set_option linter.unusedVariables false
set_option linter.unusedSimpArgs false
theorem Rw.cell_ne {w0 lo hi b j : Nat} {w : World} {v u : Value} {l : List S45} (h : Rw w0 w lo hi v l) (hn : v.ownBlock ≠ some b) : Rw w0 (w.setCell ⟨b, j, none⟩ u) lo hi v l :=
  Kd.R_far (p := ⟨b, j, none⟩) h (fun k hk e => hn (by rw [show b = k from e.symm]; exact hk.1)) u
theorem Rw.row_ne {w0 lo hi b : Nat} {w : World} {v : Value} {l : List S45} (h : Rw w0 w lo hi v l) (cs : Array Value) (hn : v.ownBlock ≠ some b) : Rw w0 (w.setRow b cs) lo hi v l :=
  Kd.R_mono (Kd.R_step h (fun k hk _ => setRow_other _ _ _ _ (fun e => hn (by rw [← e]; exact hk.1)))) (fun _ h_ => h_)
theorem gone_eq (st ty : Int) : (fun z : S45 => !decide (z.f0 = st ∧ z.f1 ≤ ty)) = (fun z : S45 => !goneB st ty z) := by
  funext z
  unfold goneB
  by_cases h1 : z.f0 = st <;> by_cases h2 : z.f1 ≤ ty <;> simp [h1, h2]
def FreeSub (w0 : List S45) (p : List S45 × List S45 × List S45) : Prop := ∀ z ∈ p.2.1, z ∈ w0
theorem FreeSub.step {w0 : List S45} {p : List S45 × List S45 × List S45} (h : FreeSub w0 p) (x : S45) : FreeSub w0 (stepF p x) := by
  unfold stepF
  split
  · exact fun z hz => h z (List.mem_filter.1 hz).1
  · exact h
theorem FreeSub.same {w0 : List S45} {p : List S45 × List S45 × List S45} (hw : Asc w0) (h : FreeSub w0 p) {y : S45} (hy : y ∈ w0) : p.2.1.filter (fun z => !decide (z.f0 = y.f0 ∧ z.f1 ≤ y.f1)) = p.2.1.filter (fun z => !decide (z.f0 = y.f0)) := by
  refine List.filter_congr (fun z hz => ?_)
  by_cases h1 : z.f0 = y.f0
  · have e : z = y := (at_place hw (h z hz) h1).symm.trans (at_place hw hy rfl)
    subst e
    simp
  · simp [h1]
set_option maxHeartbeats 8000000 in
set_option maxRecDepth 100000 in
theorem sfree_calls (s : Int) (A1 : Option Addr) (c1 : Nat) (l1 : List S45) (A2 : Option Addr) (c2 : Nat) (l2 : List S45) (st ty : Int) (r1 : Int) (r2 r3 r4 : List S45) (w : World)
    (hr1 : Kd.C k45 w A1 l1.length l1) (hc1 : l1.length ≤ c1) (hr2 : Kd.C k45 w A2 l2.length l2) (hc2 : l2.length ≤ c2) (hl1 : l1.length ≤ 1048576) (hl2 : l2.length ≤ 1048576) (h : freeF s l1 l2 st ty = (r1, r2, r3, r4)) :
    Calls Try.prog 24 #[.agg #[.int .i64 s, .slice A1 l1.length c1, .slice A2 l2.length c2], .int .i64 st, .int .i64 ty] w fun e w' => ∃ v1 v2 v3 : Value, e = .returned (.tuple #[.agg #[.int .i64 r1, v1, v2], v3]) ∧
      Kd.R k45 45 w' w.heap.size (fun k => some k ≠ v2.ownBlock ∧ some k ≠ v3.ownBlock) v1 r2 ∧ Kd.R k45 45 w' w.heap.size (fun k => some k ≠ v1.ownBlock ∧ some k ≠ v3.ownBlock) v2 r3 ∧ Kd.R k45 45 w' w.heap.size (fun k => some k ≠ v1.ownBlock ∧ some k ≠ v2.ownBlock) v3 r4 ∧ Below w.heap.size w w' := by
  have hu29 := Try.underlying29
  have hu45 := Try.underlying45
  have HR1 := Aside0.mk hr1
  have HC1 := Aside0.mk hc1
  have HR2 := Aside0.mk hr2
  have HC2 := Aside0.mk hc2
  have HL1 := Aside0.mk hl1
  have HL2 := Aside0.mk hl2
  have HCO := Aside0.mk (copy_eq s l1 l2 hl1 hl2)
  have HH := Aside0.mk h
  clear hr1 hc1 hr2 hc2 hl1 hl2 h
  have HB := Aside0.mk (below_alloc (below_alloc (Below.refl w.heap.size w) (.cells #[.int .i64 s, .slice A1 l1.length c1, .slice A2 l2.length c2] 29 (0, 0))) (.cells #[.int .i64 0, .slice none 0 0, .slice none 0 0] 29 (0, 0)))
  have P3 := Aside0.mk (blk_alloc (blk_new w (.cells #[.int .i64 s, .slice A1 l1.length c1, .slice A2 l2.length c2] 29 (0, 0))) (.cells #[.int .i64 0, .slice none 0 0, .slice none 0 0] 29 (0, 0)))
  have P6 := Aside0.mk (blk_new (w.alloc (.cells #[.int .i64 s, .slice A1 l1.length c1, .slice A2 l2.length c2] 29 (0, 0))) (.cells #[.int .i64 0, .slice none 0 0, .slice none 0 0] 29 (0, 0)))
  have hs_ : (w.alloc (.cells #[.int .i64 s, .slice A1 l1.length c1, .slice A2 l2.length c2] 29 (0, 0))).heap.size = w.heap.size + 1 := by simp
  rw [hs_] at P6
  clear hs_
  go_enter Try.func24, Try.ntmps24
  go_upto_region 1 with (fail)
  generalize (w.alloc (.cells #[.int .i64 s, .slice A1 l1.length c1, .slice A2 l2.length c2] 29 (0, 0))).alloc (.cells #[.int .i64 0, .slice none 0 0, .slice none 0 0] 29 (0, 0)) = W1 at HB P3 P6 ⊢
  obtain ⟨b6, hb6⟩ : ∃ b6, b6 = w.heap.size + 1 := ⟨_, rfl⟩
  rw [← hb6] at P6 ⊢
  have G := Aside0.mk (show w.heap.size < b6 by omega)
  have G6 := Aside0.mk (blk_lt P6.out)
  clear hb6
  go_upto_region 2 with (((with_reducible refine gate_dst (N := 12) rfl ?_); refine Kd.R_lit k45 _ 45 ?hg (N := 12) ?hd (xs := ([] : List (S45))) (inner := []) (ok := fun _ => True) (okp := fun _ => True) ?hr ?hp (fun _ hk => hk) trivial (Below.refl _ _) (Nat.le_refl _) (by simp) ?_; (case hd => rfl); (case hg => rfl); (case hr => first | (go_simp; done) | (go_simp; rfl)); (case hp => exact (Reps.none _ _)); intro vg W2 qg hb hg_ hnew_; clear hg_ hnew_; have QG := Aside0.mk qg; have HB2 := Aside0.mk hb; clear qg hb))
  have hb := HB2.out
  have RG := Aside0.mk (Rw.of QG.out HB.out.size)
  have NG6 : Aside0 ((vg : Value).ownBlock ≠ some b6) := ⟨fun e => by have := RG.out.at_ e; have := G6.out; omega⟩
  have ZW2 := Aside0.mk hb.size
  clear HB2 QG
  have P3 := Aside0.mk (blk_below P3.out hb)
  have P6 := Aside0.mk (blk_below P6.out hb)
  have HB := Aside0.mk (below_step HB.out hb)
  clear hb
  go_wp2_with (((with_reducible refine gate_dst (N := 13) rfl ?_); refine wpList_load_row rfl 29 (.tmp 3) rfl w.heap.size rfl 29 #[.int .i64 s, .slice A1 l1.length c1, .slice A2 l2.length c2] (0, 0) _ P3.out hu29 rfl (by kernel_rfl) ?_))
  refine (okH s A1 c1 l1 A2 c2 l2 W2 (Kd.C_below HR1.out HB.out) HC1.out (Kd.C_below HR2.out HB.out) HC2.out HL1.out HL2.out).mono ?_
  rintro e W3 ⟨rfl, hb⟩
  have ZW3 := Aside0.mk hb.size
  have P3 := Aside0.mk (blk_below P3.out hb)
  have P6 := Aside0.mk (blk_below P6.out hb)
  have RG := Aside0.mk (Rw.below RG.out hb)
  have HB := Aside0.mk (below_step HB.out hb)
  clear hb
  cases hok : lockB s l1 l2 with
  | false =>
    have hh := HH.out
    unfold freeF at hh
    rw [if_pos hok] at hh
    simp only [Prod.mk.injEq] at hh
    obtain ⟨rfl, rfl, rfl, rfl⟩ := hh
    clear hok
    go_wp2_with (((with_reducible refine gate_store (t := 29) (p := 6) rfl ?_); (refine wpList_store_row rfl 29 (.tmp 6) (.tmp 16) rfl b6 #[.int .i64 0, .slice none 0 0, .slice none 0 0] rfl rfl 29 #[.int .i64 0, .slice none 0 0, .slice none 0 0] P6.out (by kernel_rfl) rfl (by simp [Value.oneCell']) ?_; have P6 := Aside0.mk (setRow_heap W3 b6 _ #[.int .i64 0, .slice none 0 0, .slice none 0 0] 29 (0, 0) P6.out); have HS := Aside0.mk (below_setRow' (Below.refl b6 W3) (Nat.le_refl b6) #[.int .i64 0, .slice none 0 0, .slice none 0 0]); have RG := Aside0.mk (Rw.row_ne RG.out #[.int .i64 0, .slice none 0 0, .slice none 0 0] (b := b6) NG6.out); generalize W3.setRow b6 #[.int .i64 0, .slice none 0 0, .slice none 0 0] = W4 at P6 HS RG ⊢)))
    refine bodyPost_ret (results_ct rfl _ _ b6 29 #[.int .i64 0, .slice none 0 0, .slice none 0 0] (0, 0) _ rfl P6.out hu29 rfl (by kernel_rfl)) rfl ?_
    exact ⟨_, _, _, rfl, Kd.R_nil _ _ _ _ _, Kd.R_nil _ _ _ _ _, Rw.own_ RG.out (fun k hk => ⟨by simp [Value.ownBlock], by simp [Value.ownBlock]⟩), HB.out.trans (HS.out.mono (by have := G.out; omega))⟩
  | true =>
    have HINV := Aside0.mk (FreeInv.start (fun z => !goneB st ty z) hok)
    have HAW : Aside0 (Asc (l2.filter (fun z => !goneB st ty z))) := ⟨(lock_asc2 hok).1.filter _⟩
    have HQ := Aside0.mk (lock_asc2 hok).2
    have hh := HH.out
    unfold freeF at hh
    rw [if_neg (show ¬ (lockB s l1 l2 = false) by rw [hok]; exact Bool.noConfusion)] at hh
    have HH := Aside0.mk hh
    clear hh hok
    go_wp2_with (((with_reducible refine gate_dst (N := 18) rfl ?_); refine wpList_load_row rfl 29 (.tmp 3) rfl w.heap.size rfl 29 #[.int .i64 s, .slice A1 l1.length c1, .slice A2 l2.length c2] (0, 0) _ P3.out hu29 rfl (by kernel_rfl) ?_))
    refine (spec_l11Copy.calls s A1 c1 l1 A2 c2 l2 s l1 l2 W3 (Kd.C_below HR1.out HB.out) HC1.out (Kd.C_below HR2.out HB.out) HC2.out HCO.out).mono ?_
    rintro e W4 ⟨v1, v2, rfl, q1, q2, hb⟩
    obtain ⟨D1, d1, e0⟩ := Kd.R_slice q1
    subst e0
    obtain ⟨D2, d2, e0⟩ := Kd.R_slice q2
    subst e0
    have q1 := Rw.of q1 HB.out.size
    have q2 := Rw.of q2 HB.out.size
    have ZW4 := Aside0.mk hb.size
    have P3 := Aside0.mk (blk_below P3.out hb)
    have P6 := Aside0.mk (blk_below P6.out hb)
    have RG := Aside0.mk (Rw.below RG.out hb)
    have HB := Aside0.mk (below_step HB.out hb)
    clear hb
    have RD1 := Aside0.mk q1
    have RD2 := Aside0.mk q2
    clear q1 q2
    have hm1 : (W4.alloc (.cells #[.int .i64 s, .slice D1 l1.length d1, .slice D2 l2.length d2] 29 (0, 0))).cell? ⟨W4.heap.size, 1, none⟩ = some (.slice D1 l1.length d1) := (World.cell?_alloc_mark W4 _ 29 (0, 0) 1).trans rfl
    go_wp2_with (fail)
    clear hm1
    have P9 := Aside0.mk (blk_new W4 (.cells #[.int .i64 s, .slice D1 l1.length d1, .slice D2 l2.length d2] 29 (0, 0)))
    have hb := below_alloc (Below.refl W4.heap.size W4) (.cells #[.int .i64 s, .slice D1 l1.length d1, .slice D2 l2.length d2] 29 (0, 0))
    have G9 := Aside0.mk (show b6 < W4.heap.size from blk_lt P6.out)
    have P3 := Aside0.mk (blk_below P3.out hb)
    have P6 := Aside0.mk (blk_below P6.out hb)
    have RG := Aside0.mk (Rw.below RG.out hb)
    have RD1 := Aside0.mk (Rw.below RD1.out hb)
    have RD2 := Aside0.mk (Rw.below RD2.out hb)
    have HB := Aside0.mk (below_step HB.out hb)
    clear hb
    have GL0 := Aside0.mk (blk_lt P9.out)
    have ZZ := Aside0.mk (Nat.le_refl W4.heap.size)
    generalize W4.alloc (.cells #[.int .i64 s, .slice D1 l1.length d1, .slice D2 l2.length d2] 29 (0, 0)) = W5 at P3 P6 P9 HB GL0 RG RD1 RD2 ⊢
    obtain ⟨b9, hb9⟩ : ∃ b9, b9 = W4.heap.size := ⟨_, rfl⟩
    rw [← hb9] at P9 G9 GL0 ⊢
    have ZB9 := Aside0.mk hb9
    clear hb9
    have hn5 : b6 ≠ b9 := by have := G9.out; omega
    have hn6 : b9 ≠ b6 := by have := G9.out; omega
    have NG9 : Aside0 ((vg : Value).ownBlock ≠ some b9) := ⟨fun e => by have := RG.out.at_ e; have := ZB9.out; have := ZW3.out; have := ZW4.out; omega⟩
    obtain ⟨K1, k1⟩ := without_ev l1 st ty HL1.out
    rw [gone_eq] at k1
    have kk := k1 K1 (Nat.le_refl _)
    clear k1
    refine (spec_l11Without.calls K1 D1 d1 l1 st ty (l1.filter (fun z => !goneB st ty z)) W5 (RD1.out.reads).2.2 (RD1.out.reads).2.1 kk).mono ?_
    rintro e W6 ⟨v1, rfl, q1, hb⟩
    clear kk
    obtain ⟨H1, e1, e0⟩ := Kd.R_slice q1
    subst e0
    have q1 := Rw.of q1 HB.out.size
    have ZW6 := Aside0.mk hb.size
    clear RD1
    have P3 := Aside0.mk (blk_below P3.out hb)
    have P6 := Aside0.mk (blk_below P6.out hb)
    have P9 := Aside0.mk (blk_below P9.out hb)
    have RG := Aside0.mk (Rw.below RG.out hb)
    have RD2 := Aside0.mk (Rw.below RD2.out hb)
    have HB := Aside0.mk (below_step HB.out hb)
    clear hb
    have RH := Aside0.mk q1
    clear q1
    generalize hq_ : List.filter (fun z => !goneB st ty z) l1 = M1 at RH HINV HH ⊢
    have HM1 := Aside0.mk hq_
    clear hq_
    have hb0 := (blk_cell P9.out 0).trans (show _ = some (.int .i64 s) from rfl)
    have hf0 := blk_frozen P9.out 0
    have hb1 := (blk_cell P9.out 1).trans (show _ = some (.slice D1 l1.length d1) from rfl)
    have hf1 := blk_frozen P9.out 1
    have hb2 := (blk_cell P9.out 2).trans (show _ = some (.slice D2 l2.length d2) from rfl)
    have hf2 := blk_frozen P9.out 2
    go_wp2_with (fail)
    clear hb0 hb1 hb2 hf0 hf1 hf2
    have P3 := Aside0.mk (blk_far (p := ⟨b9, 1, none⟩) P3.out (show w.heap.size ≠ b9 by have := G9.out; have := G.out; omega) (.slice H1 M1.length e1))
    have P6 := Aside0.mk (blk_far (p := ⟨b9, 1, none⟩) P6.out (show b6 ≠ b9 by have := G9.out; have := G.out; omega) (.slice H1 M1.length e1))
    have P9 := Aside0.mk (blk_put (cs' := #[.int .i64 s, .slice H1 M1.length e1, .slice D2 l2.length d2]) P9.out 1 (.slice H1 M1.length e1) rfl)
    have HB := Aside0.mk (below_set (g := b9) (j := 1) (v := .slice H1 M1.length e1) HB.out (by have := G9.out; have := G.out; omega))
    have RG := Aside0.mk (Rw.cell_ne (b := b9) (j := 1) (u := .slice H1 M1.length e1) RG.out NG9.out)
    have RD2 := Aside0.mk (Rw.cell (b := b9) (j := 1) (u := .slice H1 M1.length e1) RD2.out (Or.inr (by have := ZB9.out; omega)))
    have RH := Aside0.mk (Rw.cell (b := b9) (j := 1) (u := .slice H1 M1.length e1) RH.out (Or.inl (by have := GL0.out; omega)))
    have YW7 := Aside0.mk (show W6.heap.size ≤ (W6.setCell ⟨b9, 1, none⟩ (.slice H1 M1.length e1)).heap.size by simp)
    generalize (W6.setCell ⟨b9, 1, none⟩ (.slice H1 M1.length e1)) = W7 at P3 P6 P9 HB RG RD2 RH YW7 ⊢
    obtain ⟨K1, k1⟩ := without_ev l2 st ty HL2.out
    rw [gone_eq] at k1
    have kk := k1 K1 (Nat.le_refl _)
    clear k1
    refine (spec_l11Without.calls K1 D2 d2 l2 st ty (l2.filter (fun z => !goneB st ty z)) W7 (RD2.out.reads).2.2 (RD2.out.reads).2.1 kk).mono ?_
    rintro e W8 ⟨v1, rfl, q1, hb⟩
    clear kk
    obtain ⟨H2, e2, e0⟩ := Kd.R_slice q1
    subst e0
    have q1 := Rw.of q1 HB.out.size
    have ZW8 := Aside0.mk hb.size
    clear RD2
    have P3 := Aside0.mk (blk_below P3.out hb)
    have P6 := Aside0.mk (blk_below P6.out hb)
    have P9 := Aside0.mk (blk_below P9.out hb)
    have RG := Aside0.mk (Rw.below RG.out hb)
    have RH := Aside0.mk (Rw.below RH.out hb)
    have HB := Aside0.mk (below_step HB.out hb)
    clear hb
    have RW := Aside0.mk q1
    clear q1
    generalize hq_ : List.filter (fun z => !goneB st ty z) l2 = w0 at RW HINV HH HAW ⊢
    have HM2 := Aside0.mk hq_
    clear hq_
    have hb0 := (blk_cell P9.out 0).trans (show _ = some (.int .i64 s) from rfl)
    have hf0 := blk_frozen P9.out 0
    have hb1 := (blk_cell P9.out 1).trans (show _ = some (.slice H1 M1.length e1) from rfl)
    have hf1 := blk_frozen P9.out 1
    have hb2 := (blk_cell P9.out 2).trans (show _ = some (.slice D2 l2.length d2) from rfl)
    have hf2 := blk_frozen P9.out 2
    have P3 := Aside0.mk (blk_far (p := ⟨b9, 2, none⟩) P3.out (show w.heap.size ≠ b9 by have := G9.out; have := G.out; omega) (.slice H2 w0.length e2))
    have P6 := Aside0.mk (blk_far (p := ⟨b9, 2, none⟩) P6.out (show b6 ≠ b9 by have := G9.out; have := G.out; omega) (.slice H2 w0.length e2))
    have P9 := Aside0.mk (blk_put (cs' := #[.int .i64 s, .slice H1 M1.length e1, .slice H2 w0.length e2]) P9.out 2 (.slice H2 w0.length e2) rfl)
    have HB := Aside0.mk (below_set (g := b9) (j := 2) (v := .slice H2 w0.length e2) HB.out (by have := G9.out; have := G.out; omega))
    have RG := Aside0.mk (Rw.cell_ne (b := b9) (j := 2) (u := .slice H2 w0.length e2) RG.out NG9.out)
    have RH := Aside0.mk (Rw.cell (b := b9) (j := 2) (u := .slice H2 w0.length e2) RH.out (Or.inl (by have := GL0.out; have := ZW6.out; have := YW7.out; omega)))
    have RW := Aside0.mk (Rw.cell (b := b9) (j := 2) (u := .slice H2 w0.length e2) RW.out (Or.inl (by have := GL0.out; have := ZW6.out; have := YW7.out; omega)))
    have YW9 := Aside0.mk (show W8.heap.size ≤ (W8.setCell ⟨b9, 2, none⟩ (.slice H2 w0.length e2)).heap.size by simp)
    go_wp2_with (fail)
    clear hb0 hb1 hb2 hf0 hf1 hf2
    generalize (W8.setCell ⟨b9, 2, none⟩ (.slice H2 w0.length e2)) = W9 at P3 P6 P9 HB RG RH RW YW9 ⊢
    have hw0 : w0.length ≤ l2.length := by rw [← HM2.out]; exact List.length_filter_le _ _
    have HW0 := Aside0.mk hw0
    clear hw0
    have RC := RW
    go_loopw [8, 11] (fun v10 i wr => ∃ (x : Nat) (HA : Option Addr) (hc : Nat) (WA : Option Addr) (wc : Nat), i = .int .i64 (x : Int) ∧ Aside0 (x ≤ w0.length) ∧ Aside0 (wr.heap[b9]? = some (.cells #[.int .i64 s, .slice HA (((w0.take (x)).foldl stepF (M1, w0, [])).1).length hc, .slice WA (((w0.take (x)).foldl stepF (M1, w0, [])).2.1).length wc] 29 (0, 0))) ∧ Aside0 (Rw w.heap.size wr W5.heap.size wr.heap.size (.slice HA (((w0.take (x)).foldl stepF (M1, w0, [])).1).length hc) ((w0.take (x)).foldl stepF (M1, w0, [])).1) ∧ Aside0 (Rw w.heap.size wr W5.heap.size wr.heap.size (.slice WA (((w0.take (x)).foldl stepF (M1, w0, [])).2.1).length wc) ((w0.take (x)).foldl stepF (M1, w0, [])).2.1) ∧ Aside0 (Rw w.heap.size wr w.heap.size wr.heap.size v10 ((w0.take (x)).foldl stepF (M1, w0, [])).2.2) ∧ Aside0 (∀ k, (.slice HA (((w0.take (x)).foldl stepF (M1, w0, [])).1).length hc : Value).ownBlock = some k → (.slice WA (((w0.take (x)).foldl stepF (M1, w0, [])).2.1).length wc : Value).ownBlock ≠ some k ∧ (v10 : Value).ownBlock ≠ some k) ∧ Aside0 (∀ k, (.slice WA (((w0.take (x)).foldl stepF (M1, w0, [])).2.1).length wc : Value).ownBlock = some k → (v10 : Value).ownBlock ≠ some k) ∧ Aside0 (∀ k, (.slice H2 w0.length e2 : Value).ownBlock = some k → (v10 : Value).ownBlock ≠ some k) ∧ Aside0 (Rw w.heap.size wr W5.heap.size W9.heap.size (.slice H2 w0.length e2) w0) ∧ Aside0 (wr.heap[b6]? = some (.cells #[.int .i64 0, .slice none 0 0, .slice none 0 0] 29 (0, 0))) ∧ Aside0 (Below w.heap.size w wr) ∧ Aside0 (FreeInv l1.length l2.length w0 (x) ((w0.take (x)).foldl stepF (M1, w0, []))) ∧ Aside0 (W9.heap.size ≤ wr.heap.size) ∧ Aside0 (FreeSub w0 ((w0.take (x)).foldl stepF (M1, w0, []))) ∧ Aside0 ((v10 : Value).ownBlock ≠ some b9) ∧ Aside0 ((v10 : Value).ownBlock ≠ some b6)) (fun _ i _ => w0.length - (intOf i).toNat)
    case atStart =>
      have a1 := ZW6.out
      have a2 := YW7.out
      have a3 := ZW8.out
      have a4 := YW9.out
      have a5 := ZW2.out
      have a6 := ZW3.out
      have a7 := ZW4.out
      have a8 := GL0.out
      have a9 := ZB9.out
      exact ⟨0, H1, e1, H2, e2, rfl, ⟨Nat.zero_le _⟩, P9, ⟨RH.out.now⟩, ⟨Rw.wide RW.out.now (by omega) (Nat.le_refl _)⟩, ⟨Rw.wide RG.out.now (by have := G.out; have := G6.out; omega) (Nat.le_refl _)⟩, ⟨fun k hk => ⟨fun e => by have := RH.out.at_ hk; have := RW.out.at_ e; omega, fun e => by have := RG.out.at_ e; have := RH.out.at_ hk; omega⟩⟩, ⟨fun k hk e => by have := RG.out.at_ e; have := RW.out.at_ hk; omega⟩, ⟨fun k hk e => by have := RG.out.at_ e; have := RW.out.at_ hk; omega⟩, ⟨Rw.wide RC.out.now (by omega) (Nat.le_refl _)⟩, P6, HB, HINV, ⟨Nat.le_refl _⟩, ⟨fun z hz => hz⟩, NG9, NG6⟩
    case round =>
      repeat clear P3
      repeat clear P6
      repeat clear P9
      repeat clear RH
      repeat clear RW
      repeat clear RC
      repeat clear RG
      repeat clear HB
      repeat clear NG9
      repeat clear NG6
      obtain ⟨x, HA, hc, WA, wc, rfl, HX, P9, RH, RW, RG, S1, S2, S3, RC, P6, HB, HI, HZ, HSU, NG9, NG6⟩ := hrel
      by_cases hlt : x < w0.length
      · have hdl : decide (x < w0.length) = true := decide_eq_true hlt
        have HLT := Aside0.mk hlt
        have HN := Aside0.mk (show ((w0.take (x + 1)).foldl stepF (M1, w0, [])) = stepF ((w0.take (x)).foldl stepF (M1, w0, [])) w0[x] by rw [List.take_succ_eq_append_getElem hlt, List.foldl_append]; rfl)
        have HI2 := Aside0.mk (HI.out.step HAW.out hlt)
        have HSU2 := Aside0.mk (HSU.out.step w0[x])
        have HSA := Aside0.mk (HSU.out.same HAW.out (List.getElem_mem hlt))
        have HHN := Aside0.mk (HI.out.2.2.2.2 w0[x] (by rw [List.drop_eq_getElem_cons hlt]; exact List.mem_cons_self))
        obtain ⟨ad, hA, hx0, hx1, hx2, hx3⟩ := at_T45 (RC.out.reads).2.2 (x : Int) (by omega) (by omega)
        subst hA
        simp only [Int.toNat_natCast] at hx0 hx1 hx2 hx3
        have hll := HL2.out
        have hlw := HW0.out
        have hw : wrap64 ((x : Int) + 1) = (x : Int) + 1 := by unfold wrap64; omega
        have hrd := rdH hlt
        rw [hrd] at hx0 hx1 hx2 hx3
        generalize hyx_ : w0[x] = y at hx0 hx1 hx2 hx3 HN HI2 HSU2 HSA HHN
        have HYX := Aside0.mk hyx_
        clear hrd hyx_
        generalize ((w0.take (x)).foldl stepF (M1, w0, [])) = p at P9 RH RW RG S1 S2 HI HN HI2 HSU HSU2 HSA HHN
        obtain ⟨H0, W0, G0⟩ := p
        have P9 : Aside0 (wr.heap[b9]? = some (.cells #[.int .i64 s, .slice HA H0.length hc, .slice WA W0.length wc] 29 (0, 0))) := P9
        have RH : Aside0 (Rw w.heap.size wr W5.heap.size wr.heap.size (.slice HA H0.length hc) H0) := RH
        have RW : Aside0 (Rw w.heap.size wr W5.heap.size wr.heap.size (.slice WA W0.length wc) W0) := RW
        have RG : Aside0 (Rw w.heap.size wr w.heap.size wr.heap.size u8 G0) := RG
        have S1 : Aside0 (∀ k, (Value.slice HA H0.length hc).ownBlock = some k → (Value.slice WA W0.length wc).ownBlock ≠ some k ∧ (u8 : Value).ownBlock ≠ some k) := S1
        have S2 : Aside0 (∀ k, (Value.slice WA W0.length wc).ownBlock = some k → (u8 : Value).ownBlock ≠ some k) := S2
        have HHN : Aside0 (hasOf H0 y.f0 = false) := HHN
        have HSA : Aside0 (W0.filter (fun z => !decide (z.f0 = y.f0 ∧ z.f1 ≤ y.f1)) = W0.filter (fun z => !decide (z.f0 = y.f0))) := HSA
        have HI : Aside0 (Asc H0 ∧ H0.length ≤ l1.length + x ∧ W0.length ≤ l2.length ∧ G0.length ≤ x) := ⟨HI.out.1, HI.out.2.1, HI.out.2.2.1, HI.out.2.2.2.1⟩
        clear HSU
        go_wp2_with (fail)
        have P6 := Aside0.mk (blk_drew P6.out)
        have P9 := Aside0.mk (blk_drew P9.out)
        have RH := Aside0.mk (show Rw _ _ _ _ _ _ from Kd.R_drew RH.out)
        have RW := Aside0.mk (show Rw _ _ _ _ _ _ from Kd.R_drew RW.out)
        have RG := Aside0.mk (show Rw _ _ _ _ _ _ from Kd.R_drew RG.out)
        have RC := Aside0.mk (show Rw _ _ _ _ _ _ from Kd.R_drew RC.out)
        have HB := Aside0.mk (below_drew1 HB.out)
        have ZDV0 : Aside0 (wr.heap.size ≤ (wr.drew).heap.size) := ⟨Nat.le_refl _⟩
        have HSS := (show (wr.drew).heap[b9]? = some (.cells #[.int .i64 s, .slice HA H0.length hc, .slice WA W0.length wc] 29 (0, 0)) ∧ (wr.drew).cell? (ad.add (x * 4)) = some (.int .i64 y.f0) ∧ (wr.drew).cell? ⟨(ad.add (x * 4)).block, (ad.add (x * 4)).off + 1, none⟩ = some (.int .i64 y.f1) ∧ (wr.drew).cell? ⟨(ad.add (x * 4)).block, (ad.add (x * 4)).off + 2, none⟩ = some (.bool y.f2) ∧ (wr.drew).cell? ⟨(ad.add (x * 4)).block, (ad.add (x * 4)).off + 3, none⟩ = some (.bool y.f3) from ⟨P9.out, hx0, hx1, hx2, hx3⟩)
        refine start_ (n := 6) (S := fun w' => w'.heap[b9]? = some (.cells #[.int .i64 s, .slice HA H0.length hc, .slice WA W0.length wc] 29 (0, 0)) ∧ w'.cell? (ad.add (x * 4)) = some (.int .i64 y.f0) ∧ w'.cell? ⟨(ad.add (x * 4)).block, (ad.add (x * 4)).off + 1, none⟩ = some (.int .i64 y.f1) ∧ w'.cell? ⟨(ad.add (x * 4)).block, (ad.add (x * 4)).off + 2, none⟩ = some (.bool y.f2) ∧ w'.cell? ⟨(ad.add (x * 4)).block, (ad.add (x * 4)).off + 3, none⟩ = some (.bool y.f3)) (ds := []) (bt_ 6 0) (by kernel_rfl) rfl rfl HSS (fun hHeld => ?_)
        clear HSS hx0 hx1 hx2 hx3
        generalize wr.drew = V0 at P6 P9 RH RW RG RC HB ZDV0 hHeld ⊢
        refine ld_ 0 (some 40) (bt_ 6 1) b9 29 (.tmp 9) #[.int .i64 s, .slice HA H0.length hc, .slice WA W0.length wc] _ (by kernel_rfl) hHeld (fun _ h_ => h_.1) hu29 rfl (by kernel_rfl) ?_
        refine pu_ 1 (some 41) (bt_ 6 3) (by kernel_rfl) ?_
        refine pu_ 2 (some 42) (bt_ 6 7) (by kernel_rfl) ?_
        refine pu_ 3 (some 43) (bt_ 6 15) (by kernel_rfl) ?_
        refine tk_ 4 (some 44) (bt_ 6 31) (by kernel_rfl) hHeld ?_
        clear hHeld
        refine one_ (i := 5) (N := some 45) (bt_ 6 63) rfl rfl (by kernel_rfl) (by decide) (fun K hK => ?_)
        refine goes_ Try.func52 (by kernel_rfl) rfl #[.agg #[.int .i64 s, .slice HA H0.length hc, .slice WA W0.length wc], .agg #[.int .i64 y.f0, .int .i64 y.f1, .bool y.f2, .bool y.f3]] (by rfl) rfl rfl (by simp only [List.map_toArray, List.map_cons, List.map_nil]; rfl) ?_
        obtain ⟨K1, k1⟩ := may_ev s H0 W0 y (by have := HI.out.2.1; have := HQ.out; have := HLT.out; have := HW0.out; omega) (by have := HI.out.2.2.1; have := HQ.out; omega)
        have kk := k1 K1 (Nat.le_refl _)
        clear k1
        refine (spec_l11May.calls K1 s HA hc H0 WA wc W0 y.f0 y.f1 y.f2 y.f3 (mayB H0 W0 y) V0 (RH.out.reads).2.2 (RH.out.reads).2.1 (RW.out.reads).2.2 (RW.out.reads).2.1 kk).mono ?_
        rintro e V1 ⟨rfl, hb⟩
        clear kk
        refine ⟨_, rfl, ?_⟩
        have ZV1 := Aside0.mk hb.size
        have P6 := Aside0.mk (blk_below P6.out hb)
        have P9 := Aside0.mk (blk_below P9.out hb)
        have RH := Aside0.mk (Rw.below RH.out hb)
        have RW := Aside0.mk (Rw.below RW.out hb)
        have RG := Aside0.mk (Rw.below RG.out hb)
        have RC := Aside0.mk (Rw.below RC.out hb)
        have HB := Aside0.mk (below_step HB.out hb)
        clear hb
        have HYX := HYX
        obtain ⟨ad', hA', hx0, hx1, hx2, hx3⟩ := at_T45 (RC.out.reads).2.2 (x : Int) (by have := HLT.out; omega) (by have := HLT.out; omega)
        obtain rfl : ad = ad' := Option.some.inj hA'
        clear hA'
        simp only [Int.toNat_natCast] at hx0 hx1 hx2 hx3
        rw [rdH HLT.out, HYX.out] at hx0 hx1 hx2 hx3
        refine hK.out _ _ ⟨P9.out, hx0, hx1, hx2, hx3⟩ (fun hHeld => ?_)
        clear hK K hHeld
        refine norm_ (a' := ?_) ?_ ?_
        rotate_left
        · show Act.put _ (some 45) _ = _
          simp only [Act.put, List.setIfInBounds_toArray, List.set_cons_zero, List.set_cons_succ, i64_w, i32_w]
          rfl
        refine done_ (by kernel_rfl) ?_
        clear hx0 hx1 hx2 hx3
        cases hm : mayB H0 W0 y with
        | false =>
          go_wp2_with (fail)
          go_roundw
          case rel =>
            have HN' : Aside0 (((w0.take (x + 1)).foldl stepF (M1, w0, [])) = (H0, W0, G0)) := ⟨by rw [HN.out]; unfold stepF; rw [if_neg (by rw [hm]; exact Bool.noConfusion)]⟩
            have hz_ := HZ.out
            exact ⟨x + 1, HA, hc, WA, wc, congrArg (Value.int .i64) (by omega), ⟨HLT.out⟩, ⟨by rw [HN'.out]; exact P9.out⟩, ⟨by rw [HN'.out]; exact RH.out.now⟩, ⟨by rw [HN'.out]; exact RW.out.now⟩, ⟨by rw [HN'.out]; exact RG.out.now⟩, ⟨by rw [HN'.out]; exact S1.out⟩, ⟨by rw [HN'.out]; exact S2.out⟩, S3, RC, P6, HB, ⟨by rw [HN.out]; exact HI2.out⟩, ⟨by have := ZDV0.out; have := ZV1.out; omega⟩, ⟨by rw [HN.out]; exact HSU2.out⟩, NG9, NG6⟩
          case measure =>
            (try rw [hw])
            show w0.length - ((x : Int) + 1).toNat < w0.length - (x : Int).toNat
            have := HLT.out
            omega
        | true =>
          go_wp2_with (fail)
          obtain ⟨ad', hA', hx0, hx1, hx2, hx3⟩ := at_T45 (RC.out.reads).2.2 (x : Int) (by have := HLT.out; omega) (by have := HLT.out; omega)
          obtain rfl : ad = ad' := Option.some.inj hA'
          clear hA'
          simp only [Int.toNat_natCast] at hx0 hx1 hx2 hx3
          rw [rdH HLT.out, HYX.out] at hx0 hx1 hx2 hx3
          have P6 := Aside0.mk (blk_drew P6.out)
          have P9 := Aside0.mk (blk_drew P9.out)
          have RH := Aside0.mk (show Rw _ _ _ _ _ _ from Kd.R_drew RH.out)
          have RW := Aside0.mk (show Rw _ _ _ _ _ _ from Kd.R_drew RW.out)
          have RG := Aside0.mk (show Rw _ _ _ _ _ _ from Kd.R_drew RG.out)
          have RC := Aside0.mk (show Rw _ _ _ _ _ _ from Kd.R_drew RC.out)
          have HB := Aside0.mk (below_drew1 HB.out)
          have ZDV2 : Aside0 (V1.heap.size ≤ (V1.drew).heap.size) := ⟨Nat.le_refl _⟩
          have HSS := (show (V1.drew).cell? ⟨b9, 2, none⟩ = some (.slice WA W0.length wc) ∧ (V1.drew).cell? (ad.add (x * 4)) = some (.int .i64 y.f0) ∧ (V1.drew).cell? ⟨(ad.add (x * 4)).block, (ad.add (x * 4)).off + 1, none⟩ = some (.int .i64 y.f1) from ⟨(blk_cell P9.out 2).trans rfl, hx0, hx1⟩)
          refine start_ (n := 15) (S := fun w' => w'.cell? ⟨b9, 2, none⟩ = some (.slice WA W0.length wc) ∧ w'.cell? (ad.add (x * 4)) = some (.int .i64 y.f0) ∧ w'.cell? ⟨(ad.add (x * 4)).block, (ad.add (x * 4)).off + 1, none⟩ = some (.int .i64 y.f1)) (ds := [14]) (bt_ 15 0) (by kernel_rfl) rfl rfl HSS (fun hHeld => ?_)
          clear HSS hx0 hx1 hx2 hx3
          generalize V1.drew = V2 at P6 P9 RH RW RG RC HB ZDV2 hHeld ⊢
          refine pu_ 0 (some 46) (bt_ 15 1) (by kernel_rfl) ?_
          refine tk_ 1 (some 47) (bt_ 15 3) (by kernel_rfl) hHeld ?_
          refine pu_ 2 (some 48) (bt_ 15 7) (by kernel_rfl) ?_
          refine pu_ 3 (some 49) (bt_ 15 15) (by kernel_rfl) ?_
          refine pu_ 4 (some 50) (bt_ 15 31) (by kernel_rfl) ?_
          refine pu_ 5 (some 51) (bt_ 15 63) (by kernel_rfl) ?_
          refine tk_ 6 (some 52) (bt_ 15 127) (by kernel_rfl) hHeld ?_
          refine pu_ 7 (some 53) (bt_ 15 255) (by kernel_rfl) ?_
          refine pu_ 8 (some 54) (bt_ 15 511) (by kernel_rfl) ?_
          refine pu_ 9 (some 55) (bt_ 15 1023) (by kernel_rfl) ?_
          refine pu_ 10 (some 56) (bt_ 15 2047) (by kernel_rfl) ?_
          refine tk_ 11 (some 57) (bt_ 15 4095) (by kernel_rfl) hHeld ?_
          clear hHeld
          refine one_ (i := 12) (N := some 58) (bt_ 15 8191) rfl rfl (by kernel_rfl) (by decide) (fun K hK => ?_)
          refine goes_ Try.func51 (by kernel_rfl) rfl #[.slice WA W0.length wc, .int .i64 y.f0, .int .i64 y.f1] (by rfl) rfl rfl (by simp only [List.map_toArray, List.map_cons, List.map_nil]; rfl) ?_
          obtain ⟨K1, k1⟩ := without_ev W0 y.f0 y.f1 (by have := HI.out.2.2.1; have := HQ.out; omega)
          have kk := k1 K1 (Nat.le_refl _)
          rw [HSA.out] at kk
          clear k1
          refine (spec_l11Without.calls K1 WA wc W0 y.f0 y.f1 (W0.filter (fun z => !decide (z.f0 = y.f0))) V2 (RW.out.reads).2.2 (RW.out.reads).2.1 kk).mono ?_
          rintro e V3 ⟨v1, rfl, q2, hb⟩
          clear kk
          refine ⟨_, rfl, ?_⟩
          obtain ⟨WN, wn, e0⟩ := Kd.R_slice q2
          subst e0
          have q2 := Rw.of q2 HB.out.size
          have ZV3 := Aside0.mk hb.size
          have S1 := Aside0.mk (fun k hk => (S1.out k hk).2)
          have P6 := Aside0.mk (blk_below P6.out hb)
          have P9 := Aside0.mk (blk_below P9.out hb)
          have RH := Aside0.mk (Rw.below RH.out hb)
          have RG := Aside0.mk (Rw.below RG.out hb)
          have RC := Aside0.mk (Rw.below RC.out hb)
          have HB := Aside0.mk (below_step HB.out hb)
          clear hb
          clear RW
          have RW := Aside0.mk q2
          clear q2
          generalize hq_ : List.filter (fun z => !decide (z.f0 = y.f0)) W0 = W1_ at RW ⊢
          have HW1 := Aside0.mk hq_
          clear hq_
          obtain ⟨ad', hA', hx0, hx1, hx2, hx3⟩ := at_T45 (RC.out.reads).2.2 (x : Int) (by have := HLT.out; omega) (by have := HLT.out; omega)
          obtain rfl : ad = ad' := Option.some.inj hA'
          clear hA'
          simp only [Int.toNat_natCast] at hx0 hx1 hx2 hx3
          rw [rdH HLT.out, HYX.out] at hx0 hx1 hx2 hx3
          refine hK.out _ _ ⟨(blk_cell P9.out 2).trans rfl, hx0, hx1⟩ (fun hHeld => ?_)
          clear hK K hHeld hx0 hx1 hx2 hx3
          refine norm_ (a' := ?_) ?_ ?_
          rotate_left
          · show Act.put _ (some 58) _ = _
            simp only [Act.put, List.setIfInBounds_toArray, List.set_cons_zero, List.set_cons_succ, i64_w, i32_w]
            rfl
          refine pu_ 13 (some 59) (bt_ 15 16383) (by kernel_rfl) ?_
          refine last_ (i := 14) (N := none) (bt_ 15 32767) rfl rfl (by kernel_rfl) (by decide) (fun K hK => ?_)
          have hb0 := (blk_cell P9.out 0).trans (show _ = some (.int .i64 s) from rfl)
          have hf0 := blk_frozen P9.out 0
          have hb1 := (blk_cell P9.out 1).trans (show _ = some (.slice HA H0.length hc) from rfl)
          have hf1 := blk_frozen P9.out 1
          have hb2 := (blk_cell P9.out 2).trans (show _ = some (.slice WA W0.length wc) from rfl)
          have hf2 := blk_frozen P9.out 2
          refine skip_ (w1 := V3.setCell ⟨b9, 2, none⟩ (.slice WN W1_.length wn)) (by rfl) rfl (by first | (go_simp; done) | (go_simp; rfl)) ?_
          clear hb0 hb1 hb2 hf0 hf1 hf2
          have P6 := Aside0.mk (blk_far (p := ⟨b9, 2, none⟩) P6.out (show b6 ≠ b9 by have := G9.out; have := G.out; omega) (.slice WN W1_.length wn))
          have P9 := Aside0.mk (blk_put (cs' := #[.int .i64 s, .slice HA H0.length hc, .slice WN W1_.length wn]) P9.out 2 (.slice WN W1_.length wn) rfl)
          have HB := Aside0.mk (below_set (g := b9) (j := 2) (v := .slice WN W1_.length wn) HB.out (by have := G9.out; have := G.out; omega))
          have RH := Aside0.mk (Rw.cell (b := b9) (j := 2) (u := .slice WN W1_.length wn) RH.out (Or.inl (by have := GL0.out; have := ZDV0.out; have := ZV1.out; have := GL0.out; have := HZ.out; have := ZW6.out; have := YW7.out; have := ZW8.out; have := YW9.out; have := ZDV2.out; omega)))
          have RG := Aside0.mk (Rw.cell_ne (b := b9) (j := 2) (u := .slice WN W1_.length wn) RG.out NG9.out)
          have RC := Aside0.mk (Rw.cell (b := b9) (j := 2) (u := .slice WN W1_.length wn) RC.out (Or.inl (by have := GL0.out; have := ZDV0.out; have := ZV1.out; have := GL0.out; have := HZ.out; have := ZW6.out; have := YW7.out; have := ZW8.out; have := YW9.out; have := ZDV2.out; omega)))
          have RW := Aside0.mk (Rw.cell (b := b9) (j := 2) (u := .slice WN W1_.length wn) RW.out (Or.inl (by have := GL0.out; have := ZDV0.out; have := ZV1.out; have := GL0.out; have := HZ.out; have := ZW6.out; have := YW7.out; have := ZW8.out; have := YW9.out; have := ZDV2.out; omega)))
          have YV4 := Aside0.mk (show V3.heap.size ≤ (V3.setCell ⟨b9, 2, none⟩ (.slice WN W1_.length wn)).heap.size by simp)
          generalize (V3.setCell ⟨b9, 2, none⟩ (.slice WN W1_.length wn)) = V4 at P6 P9 HB RH RG RC RW YV4 ⊢
          refine hK.out _ _ ?_
          clear hK K
          refine done_ (by kernel_rfl) ?_
          go_wp2_with (fail)
          obtain ⟨ad', hA', hx0, hx1, hx2, hx3⟩ := at_T45 (RC.out.reads).2.2 (x : Int) (by have := HLT.out; omega) (by have := HLT.out; omega)
          obtain rfl : ad = ad' := Option.some.inj hA'
          clear hA'
          simp only [Int.toNat_natCast] at hx0 hx1 hx2 hx3
          rw [rdH HLT.out, HYX.out] at hx0 hx1 hx2 hx3
          have P6 := Aside0.mk (blk_drew P6.out)
          have P9 := Aside0.mk (blk_drew P9.out)
          have RH := Aside0.mk (show Rw _ _ _ _ _ _ from Kd.R_drew RH.out)
          have RG := Aside0.mk (show Rw _ _ _ _ _ _ from Kd.R_drew RG.out)
          have RC := Aside0.mk (show Rw _ _ _ _ _ _ from Kd.R_drew RC.out)
          have RW := Aside0.mk (show Rw _ _ _ _ _ _ from Kd.R_drew RW.out)
          have HB := Aside0.mk (below_drew1 HB.out)
          have ZDV5 : Aside0 (V4.heap.size ≤ (V4.drew).heap.size) := ⟨Nat.le_refl _⟩
          have HSS := (show (V4.drew).cell? ⟨b9, 1, none⟩ = some (.slice HA H0.length hc) ∧ (V4.drew).cell? (ad.add (x * 4)) = some (.int .i64 y.f0) ∧ (V4.drew).cell? ⟨(ad.add (x * 4)).block, (ad.add (x * 4)).off + 1, none⟩ = some (.int .i64 y.f1) ∧ (V4.drew).cell? ⟨(ad.add (x * 4)).block, (ad.add (x * 4)).off + 2, none⟩ = some (.bool y.f2) ∧ (V4.drew).cell? ⟨(ad.add (x * 4)).block, (ad.add (x * 4)).off + 3, none⟩ = some (.bool y.f3) from ⟨(blk_cell P9.out 1).trans rfl, hx0, hx1, hx2, hx3⟩)
          refine start_ (n := 9) (S := fun w' => w'.cell? ⟨b9, 1, none⟩ = some (.slice HA H0.length hc) ∧ w'.cell? (ad.add (x * 4)) = some (.int .i64 y.f0) ∧ w'.cell? ⟨(ad.add (x * 4)).block, (ad.add (x * 4)).off + 1, none⟩ = some (.int .i64 y.f1) ∧ w'.cell? ⟨(ad.add (x * 4)).block, (ad.add (x * 4)).off + 2, none⟩ = some (.bool y.f2) ∧ w'.cell? ⟨(ad.add (x * 4)).block, (ad.add (x * 4)).off + 3, none⟩ = some (.bool y.f3)) (ds := [8]) (bt_ 9 0) (by kernel_rfl) rfl rfl HSS (fun hHeld => ?_)
          clear HSS hx0 hx1 hx2 hx3
          generalize V4.drew = V5 at P6 P9 RH RG RC RW HB ZDV5 hHeld ⊢
          refine pu_ 0 (some 60) (bt_ 9 1) (by kernel_rfl) ?_
          refine tk_ 1 (some 61) (bt_ 9 3) (by kernel_rfl) hHeld ?_
          refine pu_ 2 (some 62) (bt_ 9 7) (by kernel_rfl) ?_
          refine pu_ 3 (some 63) (bt_ 9 15) (by kernel_rfl) ?_
          refine pu_ 4 (some 64) (bt_ 9 31) (by kernel_rfl) ?_
          refine tk_ 5 (some 65) (bt_ 9 63) (by kernel_rfl) hHeld ?_
          clear hHeld
          refine one_ (i := 6) (N := some 66) (bt_ 9 127) rfl rfl (by kernel_rfl) (by decide) (fun K hK => ?_)
          refine goes_ Try.func53 (by kernel_rfl) rfl #[.slice HA H0.length hc, .agg #[.int .i64 y.f0, .int .i64 y.f1, .bool y.f2, .bool y.f3]] (by rfl) rfl rfl (by simp only [List.map_toArray, List.map_cons, List.map_nil]; rfl) ?_
          obtain ⟨K1, k1⟩ := put_ev H0 y (by have := HI.out.2.1; have := HQ.out; have := HLT.out; have := HW0.out; omega) HI.out.1 HHN.out
          have kk := k1 K1 (Nat.le_refl _)
          clear k1
          refine (spec_l11Put.calls K1 HA hc H0 y.f0 y.f1 y.f2 y.f3 (putOf H0 y) V5 (RH.out.reads).2.2 (RH.out.reads).2.1 kk).mono ?_
          rintro e V6 ⟨v1, rfl, q1, hb⟩
          clear kk
          refine ⟨_, rfl, ?_⟩
          obtain ⟨HQ5, eq5, e0⟩ := Kd.R_slice q1
          subst e0
          have q1 := Rw.of q1 HB.out.size
          have ZV6 := Aside0.mk hb.size
          have P6 := Aside0.mk (blk_below P6.out hb)
          have P9 := Aside0.mk (blk_below P9.out hb)
          have RG := Aside0.mk (Rw.below RG.out hb)
          have RC := Aside0.mk (Rw.below RC.out hb)
          have RW := Aside0.mk (Rw.below RW.out hb)
          have HB := Aside0.mk (below_step HB.out hb)
          clear hb
          clear RH
          have RH := Aside0.mk q1
          clear q1
          generalize hq_ : putOf H0 y = H1_ at RH ⊢
          have HH1 := Aside0.mk hq_
          clear hq_
          obtain ⟨ad', hA', hx0, hx1, hx2, hx3⟩ := at_T45 (RC.out.reads).2.2 (x : Int) (by have := HLT.out; omega) (by have := HLT.out; omega)
          obtain rfl : ad = ad' := Option.some.inj hA'
          clear hA'
          simp only [Int.toNat_natCast] at hx0 hx1 hx2 hx3
          rw [rdH HLT.out, HYX.out] at hx0 hx1 hx2 hx3
          refine hK.out _ _ ⟨(blk_cell P9.out 1).trans rfl, hx0, hx1, hx2, hx3⟩ (fun hHeld => ?_)
          clear hK K hHeld hx0 hx1 hx2 hx3
          refine norm_ (a' := ?_) ?_ ?_
          rotate_left
          · show Act.put _ (some 66) _ = _
            simp only [Act.put, List.setIfInBounds_toArray, List.set_cons_zero, List.set_cons_succ, i64_w, i32_w]
            rfl
          refine pu_ 7 (some 67) (bt_ 9 255) (by kernel_rfl) ?_
          refine last_ (i := 8) (N := none) (bt_ 9 511) rfl rfl (by kernel_rfl) (by decide) (fun K hK => ?_)
          have hb0 := (blk_cell P9.out 0).trans (show _ = some (.int .i64 s) from rfl)
          have hf0 := blk_frozen P9.out 0
          have hb1 := (blk_cell P9.out 1).trans (show _ = some (.slice HA H0.length hc) from rfl)
          have hf1 := blk_frozen P9.out 1
          have hb2 := (blk_cell P9.out 2).trans (show _ = some (.slice WN W1_.length wn) from rfl)
          have hf2 := blk_frozen P9.out 2
          refine skip_ (w1 := V6.setCell ⟨b9, 1, none⟩ (.slice HQ5 H1_.length eq5)) (by rfl) rfl (by first | (go_simp; done) | (go_simp; rfl)) ?_
          clear hb0 hb1 hb2 hf0 hf1 hf2
          have P6 := Aside0.mk (blk_far (p := ⟨b9, 1, none⟩) P6.out (show b6 ≠ b9 by have := G9.out; have := G.out; omega) (.slice HQ5 H1_.length eq5))
          have P9 := Aside0.mk (blk_put (cs' := #[.int .i64 s, .slice HQ5 H1_.length eq5, .slice WN W1_.length wn]) P9.out 1 (.slice HQ5 H1_.length eq5) rfl)
          have HB := Aside0.mk (below_set (g := b9) (j := 1) (v := .slice HQ5 H1_.length eq5) HB.out (by have := G9.out; have := G.out; omega))
          have RG := Aside0.mk (Rw.cell_ne (b := b9) (j := 1) (u := .slice HQ5 H1_.length eq5) RG.out NG9.out)
          have RC := Aside0.mk (Rw.cell (b := b9) (j := 1) (u := .slice HQ5 H1_.length eq5) RC.out (Or.inl (by have := GL0.out; have := ZDV0.out; have := ZV1.out; have := GL0.out; have := HZ.out; have := ZW6.out; have := YW7.out; have := ZW8.out; have := YW9.out; have := ZDV2.out; have := ZV3.out; have := YV4.out; have := ZDV5.out; have := ZV6.out; omega)))
          have RW := Aside0.mk (Rw.cell (b := b9) (j := 1) (u := .slice HQ5 H1_.length eq5) RW.out (Or.inl (by have := GL0.out; have := ZDV0.out; have := ZV1.out; have := GL0.out; have := HZ.out; have := ZW6.out; have := YW7.out; have := ZW8.out; have := YW9.out; have := ZDV2.out; have := ZV3.out; have := YV4.out; have := ZDV5.out; have := ZV6.out; omega)))
          have RH := Aside0.mk (Rw.cell (b := b9) (j := 1) (u := .slice HQ5 H1_.length eq5) RH.out (Or.inl (by have := GL0.out; have := ZDV0.out; have := ZV1.out; have := GL0.out; have := HZ.out; have := ZW6.out; have := YW7.out; have := ZW8.out; have := YW9.out; have := ZDV2.out; have := ZV3.out; have := YV4.out; have := ZDV5.out; have := ZV6.out; omega)))
          have YV7 := Aside0.mk (show V6.heap.size ≤ (V6.setCell ⟨b9, 1, none⟩ (.slice HQ5 H1_.length eq5)).heap.size by simp)
          generalize (V6.setCell ⟨b9, 1, none⟩ (.slice HQ5 H1_.length eq5)) = V7 at P6 P9 HB RG RC RW RH YV7 ⊢
          refine hK.out _ _ ?_
          clear hK K
          refine done_ (by kernel_rfl) ?_
          have S1 : Aside0 (∀ k, (Value.slice HQ5 H1_.length eq5).ownBlock = some k → (Value.slice WN W1_.length wn).ownBlock ≠ some k ∧ (u8 : Value).ownBlock ≠ some k) := ⟨fun k hk => ⟨fun e => by have := RH.out.at_ hk; have := RW.out.at_ e; have := ZDV0.out; have := ZV1.out; have := GL0.out; have := HZ.out; have := ZW6.out; have := YW7.out; have := ZW8.out; have := YW9.out; have := ZDV2.out; have := ZV3.out; have := YV4.out; have := ZDV5.out; have := ZV6.out; omega, fun e => by have := RH.out.at_ hk; have := RG.out.at_ e; have := ZDV0.out; have := ZV1.out; have := GL0.out; have := HZ.out; have := ZW6.out; have := YW7.out; have := ZW8.out; have := YW9.out; have := ZDV2.out; have := ZV3.out; have := YV4.out; have := ZDV5.out; have := ZV6.out; omega⟩⟩
          have S2 : Aside0 (∀ k, (Value.slice WN W1_.length wn).ownBlock = some k → (u8 : Value).ownBlock ≠ some k) := ⟨fun k hk e => by have := RW.out.at_ hk; have := RG.out.at_ e; have := ZDV0.out; have := ZV1.out; have := GL0.out; have := HZ.out; have := ZW6.out; have := YW7.out; have := ZW8.out; have := YW9.out; have := ZDV2.out; have := ZV3.out; have := YV4.out; have := ZDV5.out; have := ZV6.out; omega⟩
          obtain ⟨ad', hA', hx0, hx1, hx2, hx3⟩ := at_T45 (RC.out.reads).2.2 (x : Int) (by have := HLT.out; omega) (by have := HLT.out; omega)
          obtain rfl : ad = ad' := Option.some.inj hA'
          clear hA'
          simp only [Int.toNat_natCast] at hx0 hx1 hx2 hx3
          rw [rdH HLT.out, HYX.out] at hx0 hx1 hx2 hx3
          go_wp2_with (((with_reducible refine gate_builtin (b := .append) (xs := #[.tmp 68, .tmp 73]) rfl ?_); at_builtin; (refine Kd.R_append k45 (w0 := w) w.heap.size rfl (.tmp 68) (.tmp 73) 27 45 (.agg #[.int .i64 0, .int .i64 0, .bool false, .bool false]) 24 rfl Try.underlying27 info45 rfl (by decide) (by omega) u8 G0 y [.int .i64 y.f0, .int .i64 y.f1, .bool y.f2, .bool y.f3] (fun _ => True) (fun _ => False) rfl rfl ?aP (fun _ hk => hk.elim) ?aF ?aO ?aB ?aS ?aL ?_; (case aP => exact k45_mkM _ _ _ y); (case aF => exact fun k hk => trivial); (case aO => exact Kd.R_mono RG.out (fun k hk => trivial)); (case aB => exact HB.out); (case aS => exact HB.out.size); (case aL => have := HI.out.2.2.2; have := HLT.out; have := HW0.out; have := HQ.out; omega); intro v1 w7 ho hb7 hg hat; have HO7 := Aside0.mk ho; have HG7 := Aside0.mk hg; have HT7 := Aside0.mk hat; have HB7 := Aside0.mk hb7; clear ho hb7 hg hat)))
          clear hx0 hx1 hx2 hx3
          have P9 := Aside0.mk ((HG7.out.block b9 (blk_lt P9.out) (fun e => NG9.out e.symm)).trans P9.out)
          have P6 := Aside0.mk ((HG7.out.block b6 (blk_lt P6.out) (fun e => NG6.out e.symm)).trans P6.out)
          have T1 := Aside0.mk (show ∀ k, k < V7.heap.size → (u8 : Value).ownBlock ≠ some k → (v1 : Value).ownBlock ≠ some k from fun k hk hn e => by
            rcases HT7.out with q | ⟨b_, q1, q2⟩
            · exact hn (q ▸ e)
            · rw [q1] at e; injection e with e; omega)
          have NG9 := Aside0.mk (T1.out b9 (by have := ZDV0.out; have := ZV1.out; have := GL0.out; have := HZ.out; have := ZW6.out; have := YW7.out; have := ZW8.out; have := YW9.out; have := ZDV2.out; have := ZV3.out; have := YV4.out; have := ZDV5.out; have := ZV6.out; have := YV7.out; omega) NG9.out)
          have NG6 := Aside0.mk (T1.out b6 (by have := G9.out; have := ZDV0.out; have := ZV1.out; have := GL0.out; have := HZ.out; have := ZW6.out; have := YW7.out; have := ZW8.out; have := YW9.out; have := ZDV2.out; have := ZV3.out; have := YV4.out; have := ZDV5.out; have := ZV6.out; have := YV7.out; omega) NG6.out)
          have RCn := Aside0.mk (Rw.grown RC.out HG7.out S3.out)
          have RHn := Aside0.mk (Rw.grown RH.out HG7.out (fun k hk => (S1.out k hk).2))
          have RWn := Aside0.mk (Rw.grown RW.out HG7.out S2.out)
          have S1 := Aside0.mk (fun k hk => And.intro (S1.out k hk).1 (T1.out k (RH.out.lt hk) (S1.out k hk).2))
          have S2 := Aside0.mk (fun k hk => T1.out k (RW.out.lt hk) (S2.out k hk))
          have S3 := Aside0.mk (fun k hk => T1.out k (RC.out.lt hk) (S3.out k hk))
          have ZG := Aside0.mk HG7.out.size
          have RG := Aside0.mk (show Rw w.heap.size w7 w.heap.size w7.heap.size v1 (G0 ++ [y]) from Rw.own_ HO7.out (fun k hk => ⟨hk, ((Kd.R_bound HO7.out).1 k hk).2.1, Kd.R_lt HO7.out k hk⟩))
          have RC := RCn
          have RH := Aside0.mk (show Rw w.heap.size w7 W5.heap.size w7.heap.size _ _ from Rw.wide RHn.out.now (by have := ZDV0.out; have := ZV1.out; have := GL0.out; have := HZ.out; have := ZW6.out; have := YW7.out; have := ZW8.out; have := YW9.out; have := ZDV2.out; have := ZV3.out; have := YV4.out; have := ZDV5.out; have := ZV6.out; have := YV7.out; omega) (Nat.le_refl _))
          have RW := Aside0.mk (show Rw w.heap.size w7 W5.heap.size w7.heap.size _ _ from Rw.wide RWn.out.now (by have := ZDV0.out; have := ZV1.out; have := GL0.out; have := HZ.out; have := ZW6.out; have := YW7.out; have := ZW8.out; have := YW9.out; have := ZDV2.out; have := ZV3.out; have := YV4.out; have := ZDV5.out; have := ZV6.out; have := YV7.out; omega) (Nat.le_refl _))
          have HB := HB7
          rw [← HH1.out] at P9 RH S1
          rw [← HW1.out] at P9 RW S1 S2
          go_roundw
          case rel =>
            have HN' : Aside0 (((w0.take (x + 1)).foldl stepF (M1, w0, [])) = (putOf H0 y, W0.filter (fun z => !decide (z.f0 = y.f0)), G0 ++ [y])) := ⟨by rw [HN.out]; unfold stepF; rw [if_pos hm]⟩
            have hz_ := HZ.out
            exact ⟨x + 1, HQ5, eq5, WN, wn, congrArg (Value.int .i64) (by omega), ⟨HLT.out⟩, ⟨by rw [HN'.out]; exact P9.out⟩, ⟨by rw [HN'.out]; exact RH.out.now⟩, ⟨by rw [HN'.out]; exact RW.out.now⟩, ⟨by rw [HN'.out]; exact RG.out.now⟩, ⟨by rw [HN'.out]; exact S1.out⟩, ⟨by rw [HN'.out]; exact S2.out⟩, S3, RC, P6, HB, ⟨by rw [HN.out]; exact HI2.out⟩, ⟨by have := ZDV0.out; have := ZV1.out; have := ZDV2.out; have := ZV3.out; have := YV4.out; have := ZDV5.out; have := ZV6.out; have := YV7.out; have := ZG.out; omega⟩, ⟨by rw [HN.out]; exact HSU2.out⟩, NG9, NG6⟩
          case measure =>
            (try rw [hw])
            show w0.length - ((x : Int) + 1).toNat < w0.length - (x : Int).toNat
            have := HLT.out
            omega
      · obtain rfl : x = w0.length := by have := HX.out; omega
        have hdl : decide (w0.length < w0.length) = false := decide_eq_false hlt
        clear hlt
        rw [List.take_length] at P9 RH RW RG S1 S2 HI HSU
        have hh := HH.out
        generalize List.foldl stepF (M1, w0, []) w0 = p at P9 RH RW RG S1 S2 HI HSU hh
        obtain ⟨H0, W0, G0⟩ := p
        simp only [Prod.mk.injEq] at hh
        obtain ⟨rfl, rfl, rfl, rfl⟩ := hh
        have P9 : Aside0 (wr.heap[b9]? = some (.cells #[.int .i64 s, .slice HA H0.length hc, .slice WA W0.length wc] 29 (0, 0))) := P9
        go_wp2_with (first | ((with_reducible refine gate_dst (N := 75) rfl ?_); refine wpList_load_row rfl 29 (.tmp 9) rfl b9 rfl 29 #[.int .i64 s, .slice HA H0.length hc, .slice WA W0.length wc] (0, 0) _ P9.out hu29 rfl (by kernel_rfl) ?_) | ((with_reducible refine gate_store (t := 29) (p := 6) rfl ?_); (refine wpList_store_row rfl 29 (.tmp 6) (.tmp 75) rfl b6 #[.int .i64 s, .slice HA H0.length hc, .slice WA W0.length wc] rfl rfl 29 #[.int .i64 0, .slice none 0 0, .slice none 0 0] P6.out (by kernel_rfl) rfl (by simp [Value.oneCell']) ?_; have P6 := Aside0.mk (setRow_heap wr b6 _ #[.int .i64 s, .slice HA H0.length hc, .slice WA W0.length wc] 29 (0, 0) P6.out); have HS := Aside0.mk (below_setRow' (Below.refl b6 wr) (Nat.le_refl b6) #[.int .i64 s, .slice HA H0.length hc, .slice WA W0.length wc]); have RH := Aside0.mk (Rw.row RH.out #[.int .i64 s, .slice HA H0.length hc, .slice WA W0.length wc] (b := b6) (Or.inl (by have := G9.out; have := GL0.out; omega))); have RW := Aside0.mk (Rw.row RW.out #[.int .i64 s, .slice HA H0.length hc, .slice WA W0.length wc] (b := b6) (Or.inl (by have := G9.out; have := GL0.out; omega))); have RG := Aside0.mk (Rw.row_ne RG.out #[.int .i64 s, .slice HA H0.length hc, .slice WA W0.length wc] (b := b6) NG6.out); generalize wr.setRow b6 #[.int .i64 s, .slice HA H0.length hc, .slice WA W0.length wc] = Wz at P6 HS RH RW RG ⊢)))
        refine bodyPost_ret (results_ct rfl _ _ b6 29 #[.int .i64 s, .slice HA H0.length hc, .slice WA W0.length wc] (0, 0) _ rfl P6.out hu29 rfl (by kernel_rfl)) rfl ?_
        exact ⟨_, _, _, rfl, Rw.own_ RH.out (fun k hk => ⟨fun e => (S1.out k hk).1 e.symm, fun e => (S1.out k hk).2 e.symm⟩), Rw.own_ RW.out (fun k hk => ⟨fun e => (S1.out k e.symm).1 hk, fun e => S2.out k hk e.symm⟩), Rw.own_ RG.out (fun k hk => ⟨fun e => (S1.out k e.symm).2 hk, fun e => S2.out k e.symm hk⟩), HB.out.trans (HS.out.mono (by have := G.out; omega))⟩
end Go.Proofs.Ytjldpnhlegbjkaa.PA
