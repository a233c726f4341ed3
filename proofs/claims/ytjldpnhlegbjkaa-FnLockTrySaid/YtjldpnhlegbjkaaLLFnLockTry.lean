/- The law FnLockTry, walked by hand: a later try stands instead of an elder one; for every code that draws a lock and who asks, no other condition. -/
import Derived.Test.YtjldpnhlegbjkaaD3
import Derived.Test.YtjldpnhlegbjkaaTryQ
import Derived.Deep.Cut
namespace Go.Proofs.Ytjldpnhlegbjkaa.PA
open Go.RowKit Go.Proofs.YtjldpnhlegbjkaaW.PrintWords Go.Proofs.YtjldpnhlegbjkaaW.PrintLast Go.Proofs.YtjldpnhlegbjkaaW.PrintMore Go.Proofs.Ytjldpnhlegbjkaa.PB
attribute [local go_sem] max2_int min2_int max_two min_two max_three min_three max_four min_four
set_option linter.unusedVariables false
set_option linter.unusedSimpArgs false
set_option maxHeartbeats 8000000 in
set_option maxRecDepth 100000 in
theorem FnLockTry_main (A0 : Option Addr) (c0 : Nat) (l0 : List Int) (w : World) (hr0 : Kd.C (Kd.int .u8) w A0 l0.length l0) (hc0 : l0.length ≤ c0) (hw : ∀ x ∈ l0, (Lit.int .u8 x).wf = true) :
 Calls Try.prog 11 #[.slice A0 l0.length c0] w fun e w' => e = .returned (.bool true) ∧ Below w.heap.size w w' := by
 have hu29 := Try.underlying29
 have hu45 := Try.underlying45
 have HR0 := Aside0.mk hr0
 have HC0 := Aside0.mk hc0
 have HW := Aside0.mk hw
 have HB := Aside0.mk (Below.refl w.heap.size w)
 clear hr0 hc0 hw
 by_cases hz : 1048576 < l0.length
 ·have hzd : decide (1048576 < (l0.length : Int)) = true := decide_eq_true (by omega)
  go_enter Try.func11, Try.ntmps11
  go_wp2_with (fail)
  go_ret
  exact ⟨rfl, HB.out⟩
 ·have hzd : decide (1048576 < (l0.length : Int)) = false := decide_eq_false (by omega)
  clear hz
  go_enter Try.func11, Try.ntmps11
  go_wp2_with (fail)
  clear hzd
  refine (drawAsk_calls A0 c0 l0 w HR0.out HC0.out HW.out).mono ?_
  rintro e W1 ⟨s, l1, l2, v1, v2, x, hx9, rfl, q1, q2, hl, hb⟩
  have HX9 := Aside0.mk hx9
  clear hx9
  obtain ⟨A1, c1, e0⟩ := Kd.R_slice q1
  subst e0
  obtain ⟨A2, c2, e0⟩ := Kd.R_slice q2
  subst e0
  have SEP := Aside0.mk (show ∀ k, (Value.slice A1 l1.length c1).ownBlock = some k → (Value.slice A2 l2.length c2).ownBlock ≠ some k from fun k hk e => (q1.1 k hk) e.symm)
  have q1 := Rw.of q1 HB.out.size
  have q2 := Rw.of q2 HB.out.size
  have HL := Aside0.mk hl
  clear hl
  have Z11 := Aside0.mk ((hb).size)
  have HB := kh HB (hb)
  clear hb
  have R1 := Aside0.mk q1
  have R2 := Aside0.mk q2
  clear q1 q2
  have hb := below_alloc (Below.refl W1.heap.size W1) (.cells #[.int .i64 0, .slice none 0 0, .slice none 0 0] 29 (0, 0))
  have Z12 := Aside0.mk ((hb).size)
  have R1 := kw R1 (hb)
  have R2 := kw R2 (hb)
  have HB := kh HB (hb)
  clear hb
  have P3 := Aside0.mk (blk_new W1 (.cells #[.int .i64 0, .slice none 0 0, .slice none 0 0] 29 (0, 0)))
  have Z13 := Aside0.mk (blk_lt P3.out)
  have hb := below_alloc (Below.refl (W1.alloc (.cells #[.int .i64 0, .slice none 0 0, .slice none 0 0] 29 (0, 0))).heap.size (W1.alloc (.cells #[.int .i64 0, .slice none 0 0, .slice none 0 0] 29 (0, 0)))) (.cells #[.int .i64 0, .int .i64 0, .bool false, .bool false] 45 (0, 0))
  have Z14 := Aside0.mk ((hb).size)
  have P3 := kb P3 (hb)
  have R1 := kw R1 (hb)
  have R2 := kw R2 (hb)
  have HB := kh HB (hb)
  clear hb
  have P4 := Aside0.mk (blk_new (W1.alloc (.cells #[.int .i64 0, .slice none 0 0, .slice none 0 0] 29 (0, 0))) (.cells #[.int .i64 0, .int .i64 0, .bool false, .bool false] 45 (0, 0)))
  have Z15 := Aside0.mk (blk_lt P4.out)
  have hs1 : (W1.alloc (.cells #[.int .i64 0, .slice none 0 0, .slice none 0 0] 29 (0, 0))).heap.size = W1.heap.size + 1 := by simp
  rw [hs1] at P4 Z15
  clear hs1
  go_wp2_with (((with_reducible refine gate_store (t := 29) (p := 3) rfl ?_); refine wpList_store_row rfl 29 (.tmp 3) (.tmp 21) rfl W1.heap.size #[.int .i64 s, .slice A1 l1.length c1, .slice A2 l2.length c2] rfl rfl 29 #[.int .i64 0, .slice none 0 0, .slice none 0 0] P3.out (by kernel_rfl) rfl (by simp [Value.oneCell']) ?_; refine Aside0.out ?_))
  generalize (W1.alloc (.cells #[.int .i64 0, .slice none 0 0, .slice none 0 0] 29 (0, 0))).alloc (.cells #[.int .i64 0, .int .i64 0, .bool false, .bool false] 45 (0, 0)) = W2 at Z12 Z13 Z14 Z15 P3 P4 R1 R2 HB ⊢
  obtain ⟨b4, hb4⟩ : ∃ b4, b4 = W1.heap.size + 1 := ⟨_, rfl⟩
  rw [← hb4] at P4 Z15 ⊢
  obtain ⟨b3, hb3⟩ : ∃ b3, b3 = W1.heap.size := ⟨_, rfl⟩
  rw [← hb3] at P3 ⊢
  have Z16 := Aside0.mk (hb3)
  have Z17 := Aside0.mk (hb4)
  clear hb3 hb4
  obtain ⟨W3, e_⟩ : ∃ X, X = W2.setRow b3 #[.int .i64 s, .slice A1 l1.length c1, .slice A2 l2.length c2] := ⟨_, rfl⟩
  rw [← e_]
  have P4 := kbs P4 e_ (by have := Z11.out; have := Z12.out; have := Z13.out; have := Z14.out; have := Z15.out; have := Z16.out; have := Z17.out; omega)
  have R1 := kws R1 e_ (by have := Z11.out; have := Z12.out; have := Z13.out; have := Z14.out; have := Z15.out; have := Z16.out; have := Z17.out; omega)
  have R2 := kws R2 e_ (by have := Z11.out; have := Z12.out; have := Z13.out; have := Z14.out; have := Z15.out; have := Z16.out; have := Z17.out; omega)
  have P3 := kps P3 e_
  have HB := khs HB e_ (by have := Z11.out; have := Z12.out; have := Z13.out; have := Z14.out; have := Z15.out; have := Z16.out; have := Z17.out; omega)
  have Z18 := Aside0.mk (kzs e_)
  clear e_
  refine Aside0.mk ?_
  go_wp2_with (((with_reducible refine gate_store (t := 45) (p := 4) rfl ?_); refine wpList_store_row rfl 45 (.tmp 4) (.tmp 22) rfl b4 #[.int .i64 x.f0, .int .i64 x.f1, .bool x.f2, .bool x.f3] rfl rfl 45 #[.int .i64 0, .int .i64 0, .bool false, .bool false] P4.out (by kernel_rfl) rfl (by simp [Value.oneCell']) ?_; refine Aside0.out ?_))
  obtain ⟨W4, e_⟩ : ∃ X, X = W3.setRow b4 #[.int .i64 x.f0, .int .i64 x.f1, .bool x.f2, .bool x.f3] := ⟨_, rfl⟩
  rw [← e_]
  have P3 := kbs P3 e_ (by have := Z11.out; have := Z12.out; have := Z13.out; have := Z14.out; have := Z15.out; have := Z16.out; have := Z17.out; have := Z18.out; omega)
  have R1 := kws R1 e_ (by have := Z11.out; have := Z12.out; have := Z13.out; have := Z14.out; have := Z15.out; have := Z16.out; have := Z17.out; have := Z18.out; omega)
  have R2 := kws R2 e_ (by have := Z11.out; have := Z12.out; have := Z13.out; have := Z14.out; have := Z15.out; have := Z16.out; have := Z17.out; have := Z18.out; omega)
  have P4 := kps P4 e_
  have HB := khs HB e_ (by have := Z11.out; have := Z12.out; have := Z13.out; have := Z14.out; have := Z15.out; have := Z16.out; have := Z17.out; have := Z18.out; omega)
  have Z19 := Aside0.mk (kzs e_)
  clear e_
  refine Aside0.mk ?_
  have ZZ := Aside0.mk (And.intro Z11.out (And.intro Z12.out (And.intro Z13.out (And.intro Z14.out (And.intro Z15.out (And.intro Z16.out (And.intro Z17.out (And.intro Z18.out Z19.out))))))))
  have ha0 := (blk_cell P3.out 0).trans (show _ = some (.int .i64 s) from rfl)
  have ha1 := (blk_cell P3.out 1).trans (show _ = some (.slice A1 l1.length c1) from rfl)
  have ha2 := (blk_cell P3.out 2).trans (show _ = some (.slice A2 l2.length c2) from rfl)
  iterate 3 (try go_step)
  refine wp_seq_k (fun KA hKA => ?_)
  go_cut [] (fun wx => ∃ x : S45, Aside0 (wx.heap[b4]? = some (.cells #[.int .i64 x.f0, .int .i64 x.f1, .bool x.f2, .bool x.f3] 45 (0, 0))) ∧ Aside0 (wx.heap[b3]? = some (.cells #[.int .i64 s, .slice A1 l1.length c1, .slice A2 l2.length c2] 29 (0, 0))) ∧ Aside0 (Below w.heap.size w wx) ∧ Aside0 (Rw w.heap.size wx w.heap.size W1.heap.size (.slice A1 l1.length c1) l1) ∧ Aside0 (Rw w.heap.size wx w.heap.size W1.heap.size (.slice A2 l2.length c2) l2) ∧ Aside0 (W4.heap.size ≤ wx.heap.size))
  case first =>
   by_cases hl_ : 0 < l1.length
   ·have HLP := Aside0.mk hl_
    have hld : decide (0 < l1.length) = true := decide_eq_true hl_
    clear hl_
    by_cases hm_ : (l0.length : Int) % 2 = 0
    ·have hmd : ((l0.length : Int) % 2 == 0) = true := beq_iff_eq.mpr hm_
     clear hm_
     obtain ⟨ad, hA, y0, y1, y2, y3⟩ := at_T45 (R1.out.reads).2.2 0 (by omega) (by have := HLP.out; omega)
     subst hA
     clear y2 y3
     have hlt := HLP.out
     go_upto_region 5 with (fail)
     clear hmd hld
     have hb0 := (blk_cell P4.out 0).trans (show _ = some (.int .i64 x.f0) from rfl)
     have hbf0 := blk_frozen P4.out 0
     have hb1 := (blk_cell P4.out 1).trans (show _ = some (.int .i64 x.f1) from rfl)
     have hbf1 := blk_frozen P4.out 1
     have hb2 := (blk_cell P4.out 2).trans (show _ = some (.bool x.f2) from rfl)
     have hbf2 := blk_frozen P4.out 2
     have hb3 := (blk_cell P4.out 3).trans (show _ = some (.bool x.f3) from rfl)
     have hbf3 := blk_frozen P4.out 3
     have y0 : W4.cell? ad = some (.int .i64 (rd_T45 l1 0).f0) := y0
     have y1 : W4.cell? ⟨ad.block, ad.off + 1, none⟩ = some (.int .i64 (rd_T45 l1 0).f1) := y1
     go_upto_region 6 with (fail)
     clear hb0 hbf0 hb1 hbf1 hb2 hbf2 hb3 hbf3 y0 y1 ha0 ha1 ha2
     have P3 := Aside0.mk (blk_far (p := ⟨b4, 0, none⟩) P3.out (show b3 ≠ b4 by have := ZZ.out; omega) (.int .i64 (rd_T45 l1 0).f0))
     have P4 := Aside0.mk (blk_put (cs' := #[.int .i64 (rd_T45 l1 0).f0, .int .i64 x.f1, .bool x.f2, .bool x.f3]) P4.out 0 (.int .i64 (rd_T45 l1 0).f0) rfl)
     have R1 := Aside0.mk (Rw.cell (b := b4) (j := 0) (u := .int .i64 (rd_T45 l1 0).f0) R1.out (by have := ZZ.out; omega))
     have R2 := Aside0.mk (Rw.cell (b := b4) (j := 0) (u := .int .i64 (rd_T45 l1 0).f0) R2.out (by have := ZZ.out; omega))
     have HB := Aside0.mk (below_set (g := b4) (j := 0) (v := .int .i64 (rd_T45 l1 0).f0) HB.out (show w.heap.size ≤ b4 by have := ZZ.out; omega))
     have ZZ := Aside0.mk (And.intro ZZ.out (show W4.heap.size ≤ (W4.setCell ⟨b4, 0, none⟩ (.int .i64 (rd_T45 l1 0).f0)).heap.size by simp))
     generalize W4.setCell ⟨b4, 0, none⟩ (.int .i64 (rd_T45 l1 0).f0) = W5 at P3 P4 R1 R2 HB ZZ ⊢
     obtain ⟨ad', hA', y0, y1, y2, y3⟩ := at_T45 (R1.out.reads).2.2 0 (by omega) (by have := HLP.out; omega)
     obtain rfl : ad = ad' := Option.some.inj hA'
     clear hA' y0 y2 y3
     have y1 : W5.cell? ⟨ad.block, ad.off + 1, none⟩ = some (.int .i64 (rd_T45 l1 0).f1) := y1
     have ha0 := (blk_cell P3.out 0).trans (show _ = some (.int .i64 s) from rfl)
     have ha1 := (blk_cell P3.out 1).trans (show _ = some (.slice (some ad) l1.length c1) from rfl)
     have ha2 := (blk_cell P3.out 2).trans (show _ = some (.slice A2 l2.length c2) from rfl)
     have hb0 := (blk_cell P4.out 0).trans (show _ = some (.int .i64 (rd_T45 l1 0).f0) from rfl)
     have hbf0 := blk_frozen P4.out 0
     have hb1 := (blk_cell P4.out 1).trans (show _ = some (.int .i64 x.f1) from rfl)
     have hbf1 := blk_frozen P4.out 1
     have hb2 := (blk_cell P4.out 2).trans (show _ = some (.bool x.f2) from rfl)
     have hbf2 := blk_frozen P4.out 2
     have hb3 := (blk_cell P4.out 3).trans (show _ = some (.bool x.f3) from rfl)
     have hbf3 := blk_frozen P4.out 3
     have P3 := Aside0.mk (blk_far (p := ⟨b4, 1, none⟩) P3.out (show b3 ≠ b4 by have := ZZ.out; omega) (.int .i64 (wrap64 ((rd_T45 l1 0).f1 + 1))))
     have P4 := Aside0.mk (blk_put (cs' := #[.int .i64 (rd_T45 l1 0).f0, .int .i64 (wrap64 ((rd_T45 l1 0).f1 + 1)), .bool x.f2, .bool x.f3]) P4.out 1 (.int .i64 (wrap64 ((rd_T45 l1 0).f1 + 1))) rfl)
     have R1 := Aside0.mk (Rw.cell (b := b4) (j := 1) (u := .int .i64 (wrap64 ((rd_T45 l1 0).f1 + 1))) R1.out (by have := ZZ.out; omega))
     have R2 := Aside0.mk (Rw.cell (b := b4) (j := 1) (u := .int .i64 (wrap64 ((rd_T45 l1 0).f1 + 1))) R2.out (by have := ZZ.out; omega))
     have HB := Aside0.mk (below_set (g := b4) (j := 1) (v := .int .i64 (wrap64 ((rd_T45 l1 0).f1 + 1))) HB.out (show w.heap.size ≤ b4 by have := ZZ.out; omega))
     have ZZ := Aside0.mk (And.intro ZZ.out (show W5.heap.size ≤ (W5.setCell ⟨b4, 1, none⟩ (.int .i64 (wrap64 ((rd_T45 l1 0).f1 + 1)))).heap.size by simp))
     go_wp2_with (fail)
     clear hb0 hbf0 hb1 hbf1 hb2 hbf2 hb3 hbf3 y1 ha0 ha1 ha2
     go_meet
     case rel => exact ⟨⟨(rd_T45 l1 0).f0, wrap64 ((rd_T45 l1 0).f1 + 1), x.f2, x.f3⟩, P4, P3, HB, R1, R2, ⟨by have := ZZ.out; omega⟩⟩
    ·have hmd : ((l0.length : Int) % 2 == 0) = false := beq_eq_false_iff_ne.mpr hm_
     clear hm_
     go_wp2_with (fail)
     go_meet
     case rel => exact ⟨x, P4, P3, HB, R1, R2, ⟨Nat.le_refl _⟩⟩
   ·have hld : decide (0 < l1.length) = false := decide_eq_false hl_
    clear hl_
    go_wp2_with (fail)
    go_meet
    case rel => exact ⟨x, P4, P3, HB, R1, R2, ⟨Nat.le_refl _⟩⟩
  case rest =>
   repeat clear P3
   repeat clear P4
   repeat clear HB
   repeat clear R1
   repeat clear R2
   obtain ⟨x, P4, P3, HB, R1, R2, hz_⟩ := hcut
   have ZZ := Aside0.mk (And.intro ZZ.out hz_.out)
   clear hz_ ha0 ha1 ha2
   obtain ⟨WC, e_⟩ : ∃ X, X = wc := ⟨_, rfl⟩
   subst e_
   apply hKA
   clear hKA KA
   obtain ⟨r1, r2, r3, r4, r5, hF⟩ : ∃ r1 r2 r3 r4 r5, askF s l1 l2 x = (r1, r2, r3, r4, r5) := ⟨_, _, _, _, _, rfl⟩
   have hln := ask_len s l1 l2 x
   have hln5 := ask_len5 s l1 l2 x
   rw [hF] at hln hln5
   simp only at hln hln5
   have HLR := Aside0.mk (And.intro hln hln5)
   have HASK := Aside0.mk hF
   clear hln hln5 hF
   have HLZ : Aside0 (l1.length ≤ 64 ∧ l2.length ≤ 64 ∧ r2.length ≤ 64 ∧ r3.length ≤ 64) := ⟨by have := HL.out; have := HLR.out; omega⟩
   go_wp2_with (first | ((with_reducible refine gate_dst (N := 47) rfl ?_); refine wpList_load_row rfl 29 (.tmp 3) rfl b3 rfl 29 #[.int .i64 s, .slice A1 l1.length c1, .slice A2 l2.length c2] (0, 0) _ P3.out hu29 rfl (by kernel_rfl) ?_) | ((with_reducible refine gate_dst (N := 48) rfl ?_); refine wpList_load_row rfl 45 (.tmp 4) rfl b4 rfl 45 #[.int .i64 x.f0, .int .i64 x.f1, .bool x.f2, .bool x.f3] (0, 0) _ P4.out hu45 rfl (by kernel_rfl) ?_))
   refine (sask_calls s A1 c1 l1 A2 c2 l2 x r1 r2 r3 r4 r5 WC (R1.out.reads).2.2 (R1.out.reads).2.1 (R2.out.reads).2.2 (R2.out.reads).2.1 (by have := HL.out; omega) (by have := HL.out; omega) HASK.out).mono ?_
   rintro e W7 ⟨v1, v2, v4, rfl, q1, q2, q4, hb⟩
   have SAa := Aside0.mk (show ∀ k, v1.ownBlock = some k → v2.ownBlock ≠ some k ∧ v4.ownBlock ≠ some k from fun k hk => ⟨fun e => (q1.1 k hk).1 e.symm, fun e => (q1.1 k hk).2 e.symm⟩)
   have SBa := Aside0.mk (show ∀ k, v2.ownBlock = some k → v4.ownBlock ≠ some k from fun k hk e => (q2.1 k hk).2 e.symm)
   have q1 := Rw.of q1 HB.out.size
   have q2 := Rw.of q2 HB.out.size
   have q4 := Rw.of q4 HB.out.size
   have ZZ := Aside0.mk (And.intro ZZ.out ((hb).size))
   have P3 := kb P3 (hb)
   have P4 := kb P4 (hb)
   have R1 := kw R1 (hb)
   have R2 := kw R2 (hb)
   have HB := kh HB (hb)
   clear hb
   have QW1 := Aside0.mk q1
   have QW2 := Aside0.mk q2
   have QW5 := Aside0.mk q4
   clear q1 q2 q4
   obtain ⟨V1, v1_, e0⟩ := Rw.slice QW1.out
   subst e0
   obtain ⟨V2, v2_, e0⟩ := Rw.slice QW2.out
   subst e0
   obtain ⟨V5, v5_, e0⟩ := Rw.slice QW5.out
   subst e0
   have hb := below_alloc (Below.refl W7.heap.size W7) (.cells #[.int .i64 r1, .slice V1 r2.length v1_, .slice V2 r3.length v2_] 29 (0, 0))
   have ZZ := Aside0.mk (And.intro ZZ.out ((hb).size))
   have P3 := kb P3 (hb)
   have P4 := kb P4 (hb)
   have R1 := kw R1 (hb)
   have R2 := kw R2 (hb)
   have QW1 := kw QW1 (hb)
   have QW2 := kw QW2 (hb)
   have QW5 := kw QW5 (hb)
   have HB := kh HB (hb)
   clear hb
   have P5 := Aside0.mk (blk_new W7 (.cells #[.int .i64 r1, .slice V1 r2.length v1_, .slice V2 r3.length v2_] 29 (0, 0)))
   have ZZ := Aside0.mk (And.intro ZZ.out (blk_lt P5.out))
   go_wp2_with (first | ((with_reducible refine gate_dst (N := 54) rfl ?_); refine wpList_load_row rfl 29 (.tmp 3) rfl b3 rfl 29 #[.int .i64 s, .slice A1 l1.length c1, .slice A2 l2.length c2] (0, 0) _ P3.out hu29 rfl (by kernel_rfl) ?_) | ((with_reducible refine gate_dst (N := 55) rfl ?_); refine wpList_load_row rfl 45 (.tmp 4) rfl b4 rfl 45 #[.int .i64 x.f0, .int .i64 x.f1, .bool x.f2, .bool x.f3] (0, 0) _ P4.out hu45 rfl (by kernel_rfl) ?_))
   generalize W7.alloc (.cells #[.int .i64 r1, .slice V1 r2.length v1_, .slice V2 r3.length v2_] 29 (0, 0)) = W8 at ZZ P3 P4 P5 R1 R2 QW1 QW2 QW5 HB ⊢
   obtain ⟨b5, hq_⟩ : ∃ b5, b5 = W7.heap.size := ⟨_, rfl⟩
   rw [← hq_] at P5 ZZ ⊢
   have ZZ := Aside0.mk (And.intro ZZ.out (hq_))
   clear hq_
   refine (ask_calls s A1 c1 l1 A2 c2 l2 x r1 r2 r3 r4 r5 W8 (R1.out.reads).2.2 (R1.out.reads).2.1 (R2.out.reads).2.2 (R2.out.reads).2.1 (by have := HL.out; omega) (by have := HL.out; omega) HASK.out).mono ?_
   rintro e W9 ⟨v1, v2, v4, rfl, q1, q2, q4, hb⟩
   have SAb := Aside0.mk (show ∀ k, v1.ownBlock = some k → v2.ownBlock ≠ some k ∧ v4.ownBlock ≠ some k from fun k hk => ⟨fun e => (q1.1 k hk).1 e.symm, fun e => (q1.1 k hk).2 e.symm⟩)
   have SBb := Aside0.mk (show ∀ k, v2.ownBlock = some k → v4.ownBlock ≠ some k from fun k hk e => (q2.1 k hk).2 e.symm)
   have q1 := Rw.of q1 HB.out.size
   have q2 := Rw.of q2 HB.out.size
   have q4 := Rw.of q4 HB.out.size
   have ZZ := Aside0.mk (And.intro ZZ.out ((hb).size))
   have P3 := kb P3 (hb)
   have P4 := kb P4 (hb)
   have P5 := kb P5 (hb)
   have R1 := kw R1 (hb)
   have R2 := kw R2 (hb)
   have QW1 := kw QW1 (hb)
   have QW2 := kw QW2 (hb)
   have QW5 := kw QW5 (hb)
   have HB := kh HB (hb)
   clear hb
   have QG1 := Aside0.mk q1
   have QG2 := Aside0.mk q2
   have QG5 := Aside0.mk q4
   clear q1 q2 q4
   obtain ⟨H1, h1_, e0⟩ := Rw.slice QG1.out
   subst e0
   obtain ⟨H2, h2_, e0⟩ := Rw.slice QG2.out
   subst e0
   obtain ⟨H5, h5_, e0⟩ := Rw.slice QG5.out
   subst e0
   have hb := below_alloc (Below.refl W9.heap.size W9) (.cells #[.int .i64 r1, .slice H1 r2.length h1_, .slice H2 r3.length h2_] 29 (0, 0))
   have ZZ := Aside0.mk (And.intro ZZ.out ((hb).size))
   have P3 := kb P3 (hb)
   have P4 := kb P4 (hb)
   have P5 := kb P5 (hb)
   have R1 := kw R1 (hb)
   have R2 := kw R2 (hb)
   have QW1 := kw QW1 (hb)
   have QW2 := kw QW2 (hb)
   have QW5 := kw QW5 (hb)
   have QG1 := kw QG1 (hb)
   have QG2 := kw QG2 (hb)
   have QG5 := kw QG5 (hb)
   have HB := kh HB (hb)
   clear hb
   have P8 := Aside0.mk (blk_new W9 (.cells #[.int .i64 r1, .slice H1 r2.length h1_, .slice H2 r3.length h2_] 29 (0, 0)))
   have ZZ := Aside0.mk (And.intro ZZ.out (blk_lt P8.out))
   have hP8_0 := (blk_cell P8.out 0).trans (show _ = some (.int .i64 r1) from rfl)
   have hP8_1 := (blk_cell P8.out 1).trans (show _ = some (.slice H1 r2.length h1_) from rfl)
   have hP8_2 := (blk_cell P8.out 2).trans (show _ = some (.slice H2 r3.length h2_) from rfl)
   have hP5_0 := (blk_cell P5.out 0).trans (show _ = some (.int .i64 r1) from rfl)
   have hP5_1 := (blk_cell P5.out 1).trans (show _ = some (.slice V1 r2.length v1_) from rfl)
   have hP5_2 := (blk_cell P5.out 2).trans (show _ = some (.slice V2 r3.length v2_) from rfl)
   go_wp2_with (fail)
   clear hP8_0 hP8_1 hP8_2 hP5_0 hP5_1 hP5_2
   generalize W9.alloc (.cells #[.int .i64 r1, .slice H1 r2.length h1_, .slice H2 r3.length h2_] 29 (0, 0)) = W10 at ZZ P3 P4 P5 P8 R1 R2 QW1 QW2 QW5 QG1 QG2 QG5 HB ⊢
   obtain ⟨b8, hq_⟩ : ∃ b8, b8 = W9.heap.size := ⟨_, rfl⟩
   rw [← hq_] at P8 ZZ ⊢
   have ZZ := Aside0.mk (And.intro ZZ.out (hq_))
   clear hq_
   refine (loLock_eq r1 H1 h1_ r2 H2 h2_ r3 V1 v1_ V2 v2_ W10 (QG1.out.reads).2.2 (QG1.out.reads).2.1 (QG2.out.reads).2.2 (QG2.out.reads).2.1 (QW1.out.reads).2.2 (QW1.out.reads).2.1 (QW2.out.reads).2.2 (QW2.out.reads).2.1 (by have := HLR.out; omega) (by have := HLR.out; omega)).mono ?_
   rintro e W11 ⟨rfl, hb⟩
   have ZZ := Aside0.mk (And.intro ZZ.out ((hb).size))
   have P3 := kb P3 (hb)
   have P4 := kb P4 (hb)
   have P5 := kb P5 (hb)
   have P8 := kb P8 (hb)
   have R1 := kw R1 (hb)
   have R2 := kw R2 (hb)
   have QW1 := kw QW1 (hb)
   have QW2 := kw QW2 (hb)
   have QW5 := kw QW5 (hb)
   have QG1 := kw QG1 (hb)
   have QG2 := kw QG2 (hb)
   have QG5 := kw QG5 (hb)
   have HB := kh HB (hb)
   clear hb
   go_wp2_with (fail)
   refine (loHolds_eq H5 h5_ r5 V5 v5_ W11 (QG5.out.reads).2.2 (QG5.out.reads).2.1 (QW5.out.reads).2.2 (QW5.out.reads).2.1 (by have := HLR.out; omega)).mono ?_
   rintro e W12 ⟨rfl, hb⟩
   have ZZ := Aside0.mk (And.intro ZZ.out ((hb).size))
   have P3 := kb P3 (hb)
   have P4 := kb P4 (hb)
   have P5 := kb P5 (hb)
   have P8 := kb P8 (hb)
   have R1 := kw R1 (hb)
   have R2 := kw R2 (hb)
   have QW1 := kw QW1 (hb)
   have QW2 := kw QW2 (hb)
   have QW5 := kw QW5 (hb)
   have QG1 := kw QG1 (hb)
   have QG2 := kw QG2 (hb)
   have QG5 := kw QG5 (hb)
   have HB := kh HB (hb)
   clear hb
   have hP3_0 := (blk_cell P3.out 0).trans (show _ = some (.int .i64 s) from rfl)
   have hP3_1 := (blk_cell P3.out 1).trans (show _ = some (.slice A1 l1.length c1) from rfl)
   have hP3_2 := (blk_cell P3.out 2).trans (show _ = some (.slice A2 l2.length c2) from rfl)
   go_wp2_with (fail)
   clear hP3_0 hP3_1 hP3_2
   refine (okS s A1 c1 l1 A2 c2 l2 W12 (R1.out.reads).2.2 (R1.out.reads).2.1 (R2.out.reads).2.2 (R2.out.reads).2.1 (by have := HL.out; omega) (by have := HL.out; omega)).mono ?_
   rintro e W13 ⟨rfl, hb⟩
   have ZZ := Aside0.mk (And.intro ZZ.out ((hb).size))
   have P3 := kb P3 (hb)
   have P4 := kb P4 (hb)
   have P5 := kb P5 (hb)
   have P8 := kb P8 (hb)
   have R1 := kw R1 (hb)
   have R2 := kw R2 (hb)
   have QW1 := kw QW1 (hb)
   have QW2 := kw QW2 (hb)
   have QW5 := kw QW5 (hb)
   have QG1 := kw QG1 (hb)
   have QG2 := kw QG2 (hb)
   have QG5 := kw QG5 (hb)
   have HB := kh HB (hb)
   clear hb
   by_cases hq : lockB s l1 l2 = false
   rotate_left
   have hq6 := hq
   clear hq
   have hok : lockB s l1 l2 = true := by cases q_ : lockB s l1 l2 with | true => rfl | false => exact absurd q_ hq6
   clear hq6
   by_cases hq : x.f3 = true
   rotate_left
   have hq5 := hq
   clear hq
   have hf3 : x.f3 = false := by cases q_ : x.f3 with | false => rfl | true => exact absurd q_ hq5
   clear hq5
   by_cases hq : x.f0 < 1
   rotate_left
   have hq4 := hq
   clear hq
   have hq4d : decide (x.f0 < 1) = false := decide_eq_false hq4
   clear hq4
   by_cases hq : 9999 < x.f0
   rotate_left
   have hq3 := hq
   clear hq
   have hq3d : decide (9999 < x.f0) = false := decide_eq_false hq3
   clear hq3
   by_cases hq : x.f1 < 1
   rotate_left
   have hq2 := hq
   clear hq
   have hq2d : decide (x.f1 < 1) = false := decide_eq_false hq2
   clear hq2
   by_cases hq : 9999 < x.f1
   rotate_left
   have hq1 := hq
   clear hq
   have hq1d : decide (9999 < x.f1) = false := decide_eq_false hq1
   clear hq1
   ·have hP3_0 := (blk_cell P3.out 0).trans (show _ = some (.int .i64 s) from rfl)
    have hP3_1 := (blk_cell P3.out 1).trans (show _ = some (.slice A1 l1.length c1) from rfl)
    have hP3_2 := (blk_cell P3.out 2).trans (show _ = some (.slice A2 l2.length c2) from rfl)
    have hP4_0 := (blk_cell P4.out 0).trans (show _ = some (.int .i64 x.f0) from rfl)
    have hP4_1 := (blk_cell P4.out 1).trans (show _ = some (.int .i64 x.f1) from rfl)
    have hP4_2 := (blk_cell P4.out 2).trans (show _ = some (.bool x.f2) from rfl)
    have hP4_3 := (blk_cell P4.out 3).trans (show _ = some (.bool x.f3) from rfl)
    go_wp2_with (fail)
    clear hP3_0 hP3_1 hP3_2 hP4_0 hP4_1 hP4_2 hP4_3
    have HOK := Aside0.mk hok
    have HX3 := Aside0.mk hf3
    have HXR := Aside0.mk (show (1 ≤ x.f0 ∧ x.f0 ≤ 9999) ∧ 1 ≤ x.f1 ∧ x.f1 ≤ 9999 by simp only [decide_eq_false_iff_not] at hq4d hq3d hq2d hq1d; omega)
    clear hok hf3 hq4d hq3d hq2d hq1d
    go_loopw [11] (fun i wr => ∃ n : Nat, i = .int .i64 (n : Int) ∧ Aside0 (n ≤ l1.length) ∧ Aside0 (Below W13.heap.size W13 wr) ∧ Aside0 (∀ z ∈ l1.take n, z.f0 = x.f0 → z.f3 = false)) (fun i _ => l1.length - (intOf i).toNat)
    case atStart => exact ⟨0, rfl, ⟨Nat.zero_le _⟩, ⟨Below.refl _ _⟩, ⟨fun z hz => by simp at hz⟩⟩
    case round =>
     obtain ⟨W14, e_⟩ : ∃ X, X = wr := ⟨_, rfl⟩
     subst e_
     obtain ⟨n, rfl, HXn, HLn, HIn⟩ := hrel
     have ZZ := Aside0.mk (And.intro ZZ.out ((HLn.out).size))
     have P3 := kb P3 (HLn.out)
     have P4 := kb P4 (HLn.out)
     have P5 := kb P5 (HLn.out)
     have P8 := kb P8 (HLn.out)
     have R1 := kw R1 (HLn.out)
     have R2 := kw R2 (HLn.out)
     have QW1 := kw QW1 (HLn.out)
     have QW2 := kw QW2 (HLn.out)
     have QW5 := kw QW5 (HLn.out)
     have QG1 := kw QG1 (HLn.out)
     have QG2 := kw QG2 (HLn.out)
     have QG5 := kw QG5 (HLn.out)
     have HB := kh HB (HLn.out)
     by_cases hlt : n < l1.length
     ·have HTn := Aside0.mk hlt
      have hdl : decide (n < l1.length) = true := decide_eq_true hlt
      have hwn : wrap64 ((n : Int) + 1) = (n : Int) + 1 := by unfold wrap64; have := HLZ.out; omega
      obtain ⟨adn, hA, y0, y1, y2, y3⟩ := at_T45 (R1.out.reads).2.2 (n : Int) (by omega) (by have := HTn.out; omega)
      subst hA
      simp only [Int.toNat_natCast] at y0 y1 y2 y3
      have hrd := rdH HTn.out
      rw [hrd] at y0 y1 y2 y3
      generalize hyx_ : l1[n]'(HTn.out) = y at y0 y1 y2 y3
      have HYy := Aside0.mk hyx_
      clear hrd hyx_
      have HYM : Aside0 (y ∈ l1) := ⟨by rw [← HYy.out]; exact List.getElem_mem _⟩
      have hb1 := (blk_cell P3.out 1).trans (show _ = some (.slice (some adn) l1.length c1) from rfl)
      go_wp2_with (fail)
      clear hb1
      by_cases he_ : y.f0 = x.f0
      ·have he : (y.f0 == x.f0) = true := beq_iff_eq.mpr he_
       have HE_ := Aside0.mk he_
       clear he_
       cases hy3 : y.f3 with
       | true =>
        rw [hy3] at y3
        have P3 := kbd P3
        have P4 := kbd P4
        have P5 := kbd P5
        have P8 := kbd P8
        have R1 := kwd R1
        have R2 := kwd R2
        have QW1 := kwd QW1
        have QW2 := kwd QW2
        have QW5 := kwd QW5
        have QG1 := kwd QG1
        have QG2 := kwd QG2
        have QG5 := kwd QG5
        have HB := khd HB
        have HLn := khd HLn
        have ZZ := Aside0.mk (And.intro ZZ.out (show W14.heap.size ≤ (W14.drew).heap.size from Nat.le_refl _))
        have HSS := (show (W14.drew).cell? ⟨b3, 1, none⟩ = some (.slice (some adn) l1.length c1) ∧ (W14.drew).cell? (adn.add (n * 4)) = some (.int .i64 y.f0) ∧ (W14.drew).cell? ⟨b4, 0, none⟩ = some (.int .i64 x.f0) ∧ (W14.drew).cell? ⟨(adn.add (n * 4)).block, (adn.add (n * 4)).off + 3, none⟩ = some (.bool true) from ⟨(blk_cell P3.out 1).trans rfl, y0, (blk_cell P4.out 0).trans rfl, y3⟩)
        refine start_ (n := 17) (S := fun w' => w'.cell? ⟨b3, 1, none⟩ = some (.slice (some adn) l1.length c1) ∧ w'.cell? (adn.add (n * 4)) = some (.int .i64 y.f0) ∧ w'.cell? ⟨b4, 0, none⟩ = some (.int .i64 x.f0) ∧ w'.cell? ⟨(adn.add (n * 4)).block, (adn.add (n * 4)).off + 3, none⟩ = some (.bool true)) (ds := []) (bt_ 17 0) (by kernel_rfl) rfl rfl HSS (fun hHeld => ?_)
        clear HSS y0 y1 y2 y3
        generalize W14.drew = W15 at P3 P4 P5 P8 R1 R2 QW1 QW2 QW5 QG1 QG2 QG5 HB HLn ZZ hHeld ⊢
        refine pu_ 0 (some 124) (bt_ 17 1) (by kernel_rfl) ?_
        refine tk_ 1 (some 125) (bt_ 17 3) (by kernel_rfl) hHeld ?_
        refine pu_ 2 (some 126) (bt_ 17 7) (by kernel_rfl) ?_
        refine pu_ 3 (some 127) (bt_ 17 15) (by kernel_rfl) ?_
        refine pu_ 4 (some 128) (bt_ 17 31) (by kernel_rfl) ?_
        refine tk_ 5 (some 129) (bt_ 17 63) (by kernel_rfl) hHeld ?_
        refine pu_ 6 (some 130) (bt_ 17 127) (by kernel_rfl) ?_
        refine tk_ 7 (some 131) (bt_ 17 255) (by kernel_rfl) hHeld ?_
        refine pu_ 8 (some 132) (bt_ 17 511) (by kernel_rfl) ?_
        refine pu_ 9 (some 133) (bt_ 17 1023) (by kernel_rfl) ?_
        refine pu_ 10 (some 134) (bt_ 17 2047) (by kernel_rfl) ?_
        refine tk_ 11 (some 135) (bt_ 17 4095) (by kernel_rfl) hHeld ?_
        refine pu_ 12 (some 136) (bt_ 17 8191) (by kernel_rfl) ?_
        refine pu_ 13 (some 137) (bt_ 17 16383) (by kernel_rfl) ?_
        refine pu_ 14 (some 138) (bt_ 17 32767) (by kernel_rfl) ?_
        refine tk_ 15 (some 139) (bt_ 17 65535) (by kernel_rfl) hHeld ?_
        refine pu_ 16 (some 140) (bt_ 17 131071) (by kernel_rfl) ?_
        clear hHeld
        refine done_ (by kernel_rfl) ?_
        have ef := ask_firm HOK.out HX3.out HXR.out HYM.out HE_.out hy3
        rw [HASK.out] at ef
        simp only [Prod.mk.injEq] at ef
        obtain ⟨e1, e2, e3, -, -⟩ := ef
        have e1 := e1.symm
        have e2 := e2.symm
        have e3 := e3.symm
        subst e1
        subst e2
        subst e3
        clear hy3
        go_wp2_with (first | ((with_reducible refine gate_dst (N := 141) rfl ?_); refine wpList_load_row rfl 29 (.tmp 8) rfl b8 rfl 29 #[.int .i64 s, .slice H1 l1.length h1_, .slice H2 l2.length h2_] (0, 0) _ P8.out hu29 rfl (by kernel_rfl) ?_) | ((with_reducible refine gate_dst (N := 142) rfl ?_); refine wpList_load_row rfl 29 (.tmp 3) rfl b3 rfl 29 #[.int .i64 s, .slice (some adn) l1.length c1, .slice A2 l2.length c2] (0, 0) _ P3.out hu29 rfl (by kernel_rfl) ?_))
        have HLR := HL
        refine (loLock_eq s H1 h1_ l1 H2 h2_ l2 (some adn) c1 A2 c2 W15 (QG1.out.reads).2.2 (QG1.out.reads).2.1 (QG2.out.reads).2.2 (QG2.out.reads).2.1 (R1.out.reads).2.2 (R1.out.reads).2.1 (R2.out.reads).2.2 (R2.out.reads).2.1 (by have := HL.out; omega) (by have := HL.out; omega)).mono ?_
        rintro e W16 ⟨rfl, hb⟩
        have ZZ := Aside0.mk (And.intro ZZ.out ((hb).size))
        have P3 := kb P3 (hb)
        have P4 := kb P4 (hb)
        have P5 := kb P5 (hb)
        have P8 := kb P8 (hb)
        have R1 := kw R1 (hb)
        have R2 := kw R2 (hb)
        have QW1 := kw QW1 (hb)
        have QW2 := kw QW2 (hb)
        have QW5 := kw QW5 (hb)
        have QG1 := kw QG1 (hb)
        have QG2 := kw QG2 (hb)
        have QG5 := kw QG5 (hb)
        have HB := kh HB (hb)
        have HLn := kh HLn (hb)
        clear hb
        go_wp2_with (fail)
        go_ret
        exact ⟨rfl, HB.out⟩
       | false =>
        rw [hy3] at y3
        have HY3 := Aside0.mk hy3
        clear hy3
        have P3 := kbd P3
        have P4 := kbd P4
        have P5 := kbd P5
        have P8 := kbd P8
        have R1 := kwd R1
        have R2 := kwd R2
        have QW1 := kwd QW1
        have QW2 := kwd QW2
        have QW5 := kwd QW5
        have QG1 := kwd QG1
        have QG2 := kwd QG2
        have QG5 := kwd QG5
        have HB := khd HB
        have HLn := khd HLn
        have ZZ := Aside0.mk (And.intro ZZ.out (show W14.heap.size ≤ (W14.drew).heap.size from Nat.le_refl _))
        have HSS := (show (W14.drew).cell? ⟨b3, 1, none⟩ = some (.slice (some adn) l1.length c1) ∧ (W14.drew).cell? (adn.add (n * 4)) = some (.int .i64 y.f0) ∧ (W14.drew).cell? ⟨b4, 0, none⟩ = some (.int .i64 x.f0) ∧ (W14.drew).cell? ⟨(adn.add (n * 4)).block, (adn.add (n * 4)).off + 3, none⟩ = some (.bool false) from ⟨(blk_cell P3.out 1).trans rfl, y0, (blk_cell P4.out 0).trans rfl, y3⟩)
        refine start_ (n := 17) (S := fun w' => w'.cell? ⟨b3, 1, none⟩ = some (.slice (some adn) l1.length c1) ∧ w'.cell? (adn.add (n * 4)) = some (.int .i64 y.f0) ∧ w'.cell? ⟨b4, 0, none⟩ = some (.int .i64 x.f0) ∧ w'.cell? ⟨(adn.add (n * 4)).block, (adn.add (n * 4)).off + 3, none⟩ = some (.bool false)) (ds := []) (bt_ 17 0) (by kernel_rfl) rfl rfl HSS (fun hHeld => ?_)
        clear HSS y0 y1 y2 y3
        generalize W14.drew = W17 at P3 P4 P5 P8 R1 R2 QW1 QW2 QW5 QG1 QG2 QG5 HB HLn ZZ hHeld ⊢
        refine pu_ 0 (some 124) (bt_ 17 1) (by kernel_rfl) ?_
        refine tk_ 1 (some 125) (bt_ 17 3) (by kernel_rfl) hHeld ?_
        refine pu_ 2 (some 126) (bt_ 17 7) (by kernel_rfl) ?_
        refine pu_ 3 (some 127) (bt_ 17 15) (by kernel_rfl) ?_
        refine pu_ 4 (some 128) (bt_ 17 31) (by kernel_rfl) ?_
        refine tk_ 5 (some 129) (bt_ 17 63) (by kernel_rfl) hHeld ?_
        refine pu_ 6 (some 130) (bt_ 17 127) (by kernel_rfl) ?_
        refine tk_ 7 (some 131) (bt_ 17 255) (by kernel_rfl) hHeld ?_
        refine pu_ 8 (some 132) (bt_ 17 511) (by kernel_rfl) ?_
        refine pu_ 9 (some 133) (bt_ 17 1023) (by kernel_rfl) ?_
        refine pu_ 10 (some 134) (bt_ 17 2047) (by kernel_rfl) ?_
        refine tk_ 11 (some 135) (bt_ 17 4095) (by kernel_rfl) hHeld ?_
        refine pu_ 12 (some 136) (bt_ 17 8191) (by kernel_rfl) ?_
        refine pu_ 13 (some 137) (bt_ 17 16383) (by kernel_rfl) ?_
        refine pu_ 14 (some 138) (bt_ 17 32767) (by kernel_rfl) ?_
        refine tk_ 15 (some 139) (bt_ 17 65535) (by kernel_rfl) hHeld ?_
        refine pu_ 16 (some 140) (bt_ 17 131071) (by kernel_rfl) ?_
        clear hHeld
        refine done_ (by kernel_rfl) ?_
        go_wp2_with (fail)
        try (go_wp2_with (fail))
        go_roundw
        case rel => exact ⟨n + 1, (by first | rfl | exact congrArg (Value.int .i64) (by omega)), ⟨HTn.out⟩, HLn, ⟨by rw [List.take_succ_eq_append_getElem HTn.out]; intro z hz; rcases List.mem_append.1 hz with hz | hz; exact HIn.out z hz; rw [List.mem_singleton.1 hz, HYy.out]; exact fun _ => HY3.out⟩⟩
        case measure =>
         (try rw [hwn])
         show l1.length - ((n : Int) + 1).toNat < l1.length - (n : Int).toNat
         have := HTn.out
         omega
      ·have he : (y.f0 == x.f0) = false := beq_eq_false_iff_ne.mpr he_
       have HE_ := Aside0.mk he_
       clear he_
       have P3 := kbd P3
       have P4 := kbd P4
       have P5 := kbd P5
       have P8 := kbd P8
       have R1 := kwd R1
       have R2 := kwd R2
       have QW1 := kwd QW1
       have QW2 := kwd QW2
       have QW5 := kwd QW5
       have QG1 := kwd QG1
       have QG2 := kwd QG2
       have QG5 := kwd QG5
       have HB := khd HB
       have HLn := khd HLn
       have ZZ := Aside0.mk (And.intro ZZ.out (show W14.heap.size ≤ (W14.drew).heap.size from Nat.le_refl _))
       have HSS := (show (W14.drew).cell? ⟨b3, 1, none⟩ = some (.slice (some adn) l1.length c1) ∧ (W14.drew).cell? (adn.add (n * 4)) = some (.int .i64 y.f0) ∧ (W14.drew).cell? ⟨b4, 0, none⟩ = some (.int .i64 x.f0) from ⟨(blk_cell P3.out 1).trans rfl, y0, (blk_cell P4.out 0).trans rfl⟩)
       refine start_ (n := 17) (S := fun w' => w'.cell? ⟨b3, 1, none⟩ = some (.slice (some adn) l1.length c1) ∧ w'.cell? (adn.add (n * 4)) = some (.int .i64 y.f0) ∧ w'.cell? ⟨b4, 0, none⟩ = some (.int .i64 x.f0)) (ds := []) (bt_ 17 0) (by kernel_rfl) rfl rfl HSS (fun hHeld => ?_)
       clear HSS y0 y1 y2 y3
       generalize W14.drew = W18 at P3 P4 P5 P8 R1 R2 QW1 QW2 QW5 QG1 QG2 QG5 HB HLn ZZ hHeld ⊢
       refine pu_ 0 (some 124) (bt_ 17 1) (by kernel_rfl) ?_
       refine tk_ 1 (some 125) (bt_ 17 3) (by kernel_rfl) hHeld ?_
       refine pu_ 2 (some 126) (bt_ 17 7) (by kernel_rfl) ?_
       refine pu_ 3 (some 127) (bt_ 17 15) (by kernel_rfl) ?_
       refine pu_ 4 (some 128) (bt_ 17 31) (by kernel_rfl) ?_
       refine tk_ 5 (some 129) (bt_ 17 63) (by kernel_rfl) hHeld ?_
       refine pu_ 6 (some 130) (bt_ 17 127) (by kernel_rfl) ?_
       refine tk_ 7 (some 131) (bt_ 17 255) (by kernel_rfl) hHeld ?_
       refine pu_ 8 (some 132) (bt_ 17 511) (by kernel_rfl) ?_
       refine pu_ 9 (some 133) (bt_ 17 1023) (by kernel_rfl) ?_
       refine pn_ 10 (some 134) (bt_ 17 2047) (by kernel_rfl) ?_
       refine pn_ 11 (some 135) (bt_ 17 4095) (by kernel_rfl) ?_
       refine pn_ 12 (some 136) (bt_ 17 8191) (by kernel_rfl) ?_
       refine pn_ 13 (some 137) (bt_ 17 16383) (by kernel_rfl) ?_
       refine pn_ 14 (some 138) (bt_ 17 32767) (by kernel_rfl) ?_
       refine pn_ 15 (some 139) (bt_ 17 65535) (by kernel_rfl) ?_
       refine pu_ 16 (some 140) (bt_ 17 131071) (by kernel_rfl) ?_
       clear hHeld
       refine done_ (by kernel_rfl) ?_
       go_wp2_with (fail)
       try (go_wp2_with (fail))
       go_roundw
       case rel => exact ⟨n + 1, (by first | rfl | exact congrArg (Value.int .i64) (by omega)), ⟨HTn.out⟩, HLn, ⟨by rw [List.take_succ_eq_append_getElem HTn.out]; intro z hz; rcases List.mem_append.1 hz with hz | hz; exact HIn.out z hz; rw [List.mem_singleton.1 hz, HYy.out]; exact fun e => absurd e HE_.out⟩⟩
       case measure =>
        (try rw [hwn])
        show l1.length - ((n : Int) + 1).toNat < l1.length - (n : Int).toNat
        have := HTn.out
        omega
     ·have hdl : decide (n < l1.length) = false := decide_eq_false hlt
      obtain rfl : l1.length = n := by have := HXn.out; omega
      clear hlt
      have HE1 : Aside0 (∀ z ∈ l1, z.f0 = x.f0 → z.f3 = false) := ⟨by have h := HIn.out; rw [List.take_length] at h; exact h⟩
      have hwl : wrap64 ((l1.length : Int) + (l2.length : Int)) = (l1.length : Int) + (l2.length : Int) := by unfold wrap64; have := HL.out; omega
      by_cases hq_ : (16 : Int) ≤ (l1.length : Int) + (l2.length : Int)
      ·have hqd : decide ((16 : Int) ≤ (l1.length : Int) + (l2.length : Int)) = true := decide_eq_true hq_
       clear hq_
       have hP3_0 := (blk_cell P3.out 0).trans (show _ = some (.int .i64 s) from rfl)
       have hP3_1 := (blk_cell P3.out 1).trans (show _ = some (.slice A1 l1.length c1) from rfl)
       have hP3_2 := (blk_cell P3.out 2).trans (show _ = some (.slice A2 l2.length c2) from rfl)
       go_wp2_with (fail)
       clear hP3_0 hP3_1 hP3_2
       go_ret
       exact ⟨rfl, HB.out⟩
      ·have hqd : decide ((16 : Int) ≤ (l1.length : Int) + (l2.length : Int)) = false := decide_eq_false hq_
       obtain ⟨hct_, htr_⟩ := ask_try HOK.out HX3.out HXR.out (by omega) HE1.out HASK.out
       have HCT := Aside0.mk hct_
       have HTR := Aside0.mk htr_
       clear hq_ hct_ htr_
       have hP3_0 := (blk_cell P3.out 0).trans (show _ = some (.int .i64 s) from rfl)
       have hP3_1 := (blk_cell P3.out 1).trans (show _ = some (.slice A1 l1.length c1) from rfl)
       have hP3_2 := (blk_cell P3.out 2).trans (show _ = some (.slice A2 l2.length c2) from rfl)
       go_wp2_with (fail)
       clear hP3_0 hP3_1 hP3_2
       clear hqd hwl hdl
       have P4 := kbd P4
       have P8 := kbd P8
       have QG1 := kwd QG1
       have QG2 := kwd QG2
       have HB := khd HB
       have ZZ := Aside0.mk (And.intro ZZ.out (show W14.heap.size ≤ (W14.drew).heap.size from Nat.le_refl _))
       have HSS := (show (W14.drew).cell? ⟨b8, 1, none⟩ = some (.slice H1 r2.length h1_) ∧ (W14.drew).cell? ⟨b8, 2, none⟩ = some (.slice H2 r3.length h2_) from ⟨(blk_cell P8.out 1).trans rfl, (blk_cell P8.out 2).trans rfl⟩)
       refine start_ (n := 8) (S := fun w' => w'.cell? ⟨b8, 1, none⟩ = some (.slice H1 r2.length h1_) ∧ w'.cell? ⟨b8, 2, none⟩ = some (.slice H2 r3.length h2_)) (ds := []) (bt_ 8 0) (by kernel_rfl) rfl rfl HSS (fun hHeld => ?_)
       clear HSS
       generalize W14.drew = W19 at P4 P8 QG1 QG2 HB ZZ hHeld ⊢
       refine pu_ 1 (some 153) (bt_ 8 2) (by kernel_rfl) ?_
       refine tk_ 2 (some 154) (bt_ 8 6) (by kernel_rfl) hHeld ?_
       refine pu_ 4 (some 156) (bt_ 8 22) (by kernel_rfl) ?_
       refine tk_ 5 (some 157) (bt_ 8 54) (by kernel_rfl) hHeld ?_
       clear hHeld
       refine one_ (i := 0) (N := some 152) (bt_ 8 55) rfl rfl (by kernel_rfl) (by decide) (fun K hK => ?_)
       refine Kd.R_lit_step k45 _ 45 ?hg (N := 152) ?hd (xs := ([] : List (S45))) (inner := []) (ok := fun _ => True) (okp := fun _ => True) ?hr ?hp (fun _ hk => hk) trivial (Below.refl _ _) (Nat.le_refl _) (by simp) ?_; (case hd => rfl); (case hg => rfl); (case hr => first | (go_simp; done) | (go_simp; rfl)); (case hp => exact (Reps.none _ _))
       intro va W20 qa hb hg_ hn_
       clear hg_ hn_
       have q1 := Rw.of qa HB.out.size
       clear qa
       have ZZ := Aside0.mk (And.intro ZZ.out ((hb).size))
       have P4 := kb P4 (hb)
       have P8 := kb P8 (hb)
       have QG1 := kw QG1 (hb)
       have QG2 := kw QG2 (hb)
       have HB := kh HB (hb)
       clear hb
       have RA := Aside0.mk q1
       clear q1
       refine hK.out _ _ ⟨(blk_cell P8.out 1).trans rfl, (blk_cell P8.out 2).trans rfl⟩ (fun hHeld => ?_)
       clear hK K
       refine norm_ (a' := ?_) ?_ ?_
       rotate_left
       ·show Act.put _ (some 152) _ = _
        simp only [Act.put, List.setIfInBounds_toArray, List.set_cons_zero, List.set_cons_succ, i64_w, i32_w]
        rfl
       clear hHeld
       refine one_ (i := 3) (N := some 155) (bt_ 8 63) rfl rfl (by kernel_rfl) (by decide) (fun K hK => ?_)
       refine Kd.R_append_rows_step k45 (w0 := W20) w.heap.size (by rfl) (.tmp 152) (.tmp 154) 27 45 (.agg #[.int .i64 0, .int .i64 0, .bool false, .bool false]) 24 rfl Try.underlying27 info45 rfl (by decide) (by omega) va [] r2 _ r2.length _ (fun _ => True) (fun _ => False) rfl rfl ?aO ?aR (fun _ _ h => h) (fun _ h => h.elim) (fun _ _ => trivial) (Below.refl _ _) (show w.heap.size ≤ W20.heap.size by have := ZZ.out; omega) (by have := HLR.out; (try simp only [List.length_nil]); omega) ?_
       (case aR => exact (QG1.out.reads).2.2)
       (case aO => exact Kd.R_mono RA.out (fun _ _ => trivial))
       intro vb W21 ho hb hg hat
       have P4 := Aside0.mk ((hg.block b4 (blk_lt P4.out) (fun e => by have := RA.out.at_ e.symm; have := ZZ.out; omega)).trans P4.out)
       have P8 := Aside0.mk ((hg.block b8 (blk_lt P8.out) (fun e => by have := RA.out.at_ e.symm; have := ZZ.out; omega)).trans P8.out)
       have QG1 := Aside0.mk (Rw.grown QG1.out hg (fun k hk e => by have := QG1.out.at_ hk; have := RA.out.at_ e; have := ZZ.out; omega))
       have QG2 := Aside0.mk (Rw.grown QG2.out hg (fun k hk e => by have := QG2.out.at_ hk; have := RA.out.at_ e; have := ZZ.out; omega))
       have RB := Aside0.mk (show Rw w.heap.size W21 W19.heap.size W21.heap.size vb ([] ++ r2) from Rw.own_ ho (fun k hk => ⟨hk, by
        rcases hat with q | ⟨b_, q1, q2⟩
        ·exact (RA.out.at_ (q ▸ hk)).1
        ·rw [q1] at hk; injection hk with hk; have := ZZ.out; omega, Kd.R_lt ho k hk⟩))
       have HB := Aside0.mk (below_weaken HB.out (Nat.le_refl _) hb)
       have ZZ := Aside0.mk (And.intro ZZ.out (hg.size))
       have RA := RB
       clear RB ho hb hg hat
       refine hK.out _ _ ⟨(blk_cell P8.out 1).trans rfl, (blk_cell P8.out 2).trans rfl⟩ (fun hHeld => ?_)
       clear hK K
       refine norm_ (a' := ?_) ?_ ?_
       rotate_left
       ·show Act.put _ (some 155) _ = _
        simp only [Act.put, List.setIfInBounds_toArray, List.set_cons_zero, List.set_cons_succ, i64_w, i32_w]
        rfl
       clear hHeld
       rw [List.nil_append] at RA
       refine one_ (i := 6) (N := some 158) (bt_ 8 127) rfl rfl (by kernel_rfl) (by decide) (fun K hK => ?_)
       refine Kd.R_append_rows_step k45 (w0 := W21) w.heap.size (by rfl) (.tmp 155) (.tmp 157) 27 45 (.agg #[.int .i64 0, .int .i64 0, .bool false, .bool false]) 24 rfl Try.underlying27 info45 rfl (by decide) (by omega) vb r2 r3 _ r3.length _ (fun _ => True) (fun _ => False) rfl rfl ?aO ?aR (fun _ _ h => h) (fun _ h => h.elim) (fun _ _ => trivial) (Below.refl _ _) (show w.heap.size ≤ W21.heap.size by have := ZZ.out; omega) (by have := HLR.out; (try simp only [List.length_nil]); omega) ?_
       (case aR => exact (QG2.out.reads).2.2)
       (case aO => exact Kd.R_mono RA.out (fun _ _ => trivial))
       intro vc W22 ho hb hg hat
       have P4 := Aside0.mk ((hg.block b4 (blk_lt P4.out) (fun e => by have := RA.out.at_ e.symm; have := ZZ.out; omega)).trans P4.out)
       have P8 := Aside0.mk ((hg.block b8 (blk_lt P8.out) (fun e => by have := RA.out.at_ e.symm; have := ZZ.out; omega)).trans P8.out)
       have QG1 := Aside0.mk (Rw.grown QG1.out hg (fun k hk e => by have := QG1.out.at_ hk; have := RA.out.at_ e; have := ZZ.out; omega))
       have QG2 := Aside0.mk (Rw.grown QG2.out hg (fun k hk e => by have := QG2.out.at_ hk; have := RA.out.at_ e; have := ZZ.out; omega))
       have RB := Aside0.mk (show Rw w.heap.size W22 W19.heap.size W22.heap.size vc (r2 ++ r3) from Rw.own_ ho (fun k hk => ⟨hk, by
        rcases hat with q | ⟨b_, q1, q2⟩
        ·exact (RA.out.at_ (q ▸ hk)).1
        ·rw [q1] at hk; injection hk with hk; have := ZZ.out; omega, Kd.R_lt ho k hk⟩))
       have HB := Aside0.mk (below_weaken HB.out (Nat.le_refl _) hb)
       have ZZ := Aside0.mk (And.intro ZZ.out (hg.size))
       have RA := RB
       clear RB ho hb hg hat
       refine hK.out _ _ ⟨(blk_cell P8.out 1).trans rfl, (blk_cell P8.out 2).trans rfl⟩ (fun hHeld => ?_)
       clear hK K
       refine norm_ (a' := ?_) ?_ ?_
       rotate_left
       ·show Act.put _ (some 158) _ = _
        simp only [Act.put, List.setIfInBounds_toArray, List.set_cons_zero, List.set_cons_succ, i64_w, i32_w]
        rfl
       clear hHeld
       refine pu_ 7 (some 12) (bt_ 8 255) (by kernel_rfl) ?_
       refine done_ (by kernel_rfl) ?_
       obtain ⟨AL, al_, e0⟩ := Rw.slice RA.out
       subst e0
       generalize hl_ : r2 ++ r3 = la at RA HCT HTR ⊢
       have HLA : Aside0 (la.length ≤ 64) := ⟨by rw [← hl_, List.length_append]; have := HLR.out; omega⟩
       clear hl_
       have HLZ : Aside0 (la.length ≤ 64 ∧ la.length ≤ 64) := ⟨HLA.out, HLA.out⟩
       go_wp2_with (fail)
       go_loopw [13, 14] (fun v13 i wr => ∃ n : Nat, v13 = .int .i64 ((la.take n).countP (fun z => decide (z.f0 = x.f0)) : Int) ∧ i = .int .i64 (n : Int) ∧ Aside0 (n ≤ la.length) ∧ Aside0 (Below W22.heap.size W22 wr)) (fun _ i _ => la.length - (intOf i).toNat)
       case atStart => exact ⟨0, rfl, rfl, ⟨Nat.zero_le _⟩, ⟨Below.refl _ _⟩⟩
       case round =>
        obtain ⟨W23, e_⟩ : ∃ X, X = wr := ⟨_, rfl⟩
        subst e_
        obtain ⟨n, rfl, rfl, HXn, HLn⟩ := hrel
        have ZZ := Aside0.mk (And.intro ZZ.out ((HLn.out).size))
        have P4 := kb P4 (HLn.out)
        have P8 := kb P8 (HLn.out)
        have QG1 := kw QG1 (HLn.out)
        have QG2 := kw QG2 (HLn.out)
        have RA := kw RA (HLn.out)
        have HB := kh HB (HLn.out)
        by_cases hlt : n < la.length
        ·have HTn := Aside0.mk hlt
         have hdl : decide (n < la.length) = true := decide_eq_true hlt
         have hwn : wrap64 ((n : Int) + 1) = (n : Int) + 1 := by unfold wrap64; have := HLZ.out; omega
         obtain ⟨adn, hA, y0, y1, y2, y3⟩ := at_T45 (RA.out.reads).2.2 (n : Int) (by omega) (by have := HTn.out; omega)
         subst hA
         simp only [Int.toNat_natCast] at y0 y1 y2 y3
         have hrd := rdH HTn.out
         rw [hrd] at y0 y1 y2 y3
         generalize hyx_ : la[n]'(HTn.out) = y at y0 y1 y2 y3
         have HYy := Aside0.mk hyx_
         clear hrd hyx_
         have HYM : Aside0 (y ∈ la) := ⟨by rw [← HYy.out]; exact List.getElem_mem _⟩
         have hcn_ := List.countP_le_length (p := fun z : S45 => decide (z.f0 = x.f0)) (l := la.take n)
         rw [List.length_take] at hcn_
         have hwc : wrap64 (((la.take n).countP (fun z => decide (z.f0 = x.f0)) : Int) + 1) = ((la.take n).countP (fun z => decide (z.f0 = x.f0)) : Int) + 1 := by unfold wrap64; have := HLZ.out; omega
         have HCN : Aside0 ((la.take (n + 1)).countP (fun z => decide (z.f0 = x.f0)) = (la.take n).countP (fun z => decide (z.f0 = x.f0)) + if y.f0 = x.f0 then 1 else 0) := ⟨by rw [List.take_succ_eq_append_getElem HTn.out, List.countP_append, HYy.out, List.countP_singleton]; simp⟩
         generalize (la.take n).countP (fun z => decide (z.f0 = x.f0)) = cn at hwc HCN ⊢
         clear hcn_
         go_wp2_with (fail)
         by_cases he_ : y.f0 = x.f0
         ·have he : (y.f0 == x.f0) = true := beq_iff_eq.mpr he_
          have HE_ := Aside0.mk he_
          have hle : decide (y.f1 < x.f1) = false := decide_eq_false (by have := HTR.out y HYM.out he_; omega)
          clear he_
          have P4 := kbd P4
          have P8 := kbd P8
          have QG1 := kwd QG1
          have QG2 := kwd QG2
          have RA := kwd RA
          have HB := khd HB
          have HLn := khd HLn
          have ZZ := Aside0.mk (And.intro ZZ.out (show W23.heap.size ≤ (W23.drew).heap.size from Nat.le_refl _))
          have HSS := (show (W23.drew).cell? (adn.add (n * 4)) = some (.int .i64 y.f0) ∧ (W23.drew).cell? ⟨b4, 0, none⟩ = some (.int .i64 x.f0) from ⟨y0, (blk_cell P4.out 0).trans rfl⟩)
          refine start_ (n := 8) (S := fun w' => w'.cell? (adn.add (n * 4)) = some (.int .i64 y.f0) ∧ w'.cell? ⟨b4, 0, none⟩ = some (.int .i64 x.f0)) (ds := []) (bt_ 8 0) (by kernel_rfl) rfl rfl HSS (fun hHeld => ?_)
          clear HSS y0 y1 y2 y3
          generalize W23.drew = W24 at P4 P8 QG1 QG2 RA HB HLn ZZ hHeld ⊢
          refine pu_ 0 (some 165) (bt_ 8 1) (by kernel_rfl) ?_
          refine pu_ 1 (some 166) (bt_ 8 3) (by kernel_rfl) ?_
          refine pu_ 2 (some 167) (bt_ 8 7) (by kernel_rfl) ?_
          refine pu_ 3 (some 168) (bt_ 8 15) (by kernel_rfl) ?_
          refine tk_ 4 (some 169) (bt_ 8 31) (by kernel_rfl) hHeld ?_
          refine pu_ 5 (some 170) (bt_ 8 63) (by kernel_rfl) ?_
          refine tk_ 6 (some 171) (bt_ 8 127) (by kernel_rfl) hHeld ?_
          refine pu_ 7 (some 172) (bt_ 8 255) (by kernel_rfl) ?_
          clear hHeld
          refine done_ (by kernel_rfl) ?_
          go_wp2_with (fail)
          obtain ⟨ad', hA', y0, y1, y2, y3⟩ := at_T45 (RA.out.reads).2.2 (n : Int) (by have := HTn.out; omega) (by have := HTn.out; omega)
          obtain rfl : adn = ad' := Option.some.inj hA'
          clear hA'
          simp only [Int.toNat_natCast] at y0 y1 y2 y3
          rw [rdH HTn.out, HYy.out] at y0 y1 y2 y3
          have P4 := kbd P4
          have P8 := kbd P8
          have QG1 := kwd QG1
          have QG2 := kwd QG2
          have RA := kwd RA
          have HB := khd HB
          have HLn := khd HLn
          have ZZ := Aside0.mk (And.intro ZZ.out (show W24.heap.size ≤ (W24.drew).heap.size from Nat.le_refl _))
          have HSS := (show (W24.drew).cell? ⟨(adn.add (n * 4)).block, (adn.add (n * 4)).off + 1, none⟩ = some (.int .i64 y.f1) ∧ (W24.drew).cell? ⟨b4, 1, none⟩ = some (.int .i64 x.f1) from ⟨y1, (blk_cell P4.out 1).trans rfl⟩)
          refine start_ (n := 8) (S := fun w' => w'.cell? ⟨(adn.add (n * 4)).block, (adn.add (n * 4)).off + 1, none⟩ = some (.int .i64 y.f1) ∧ w'.cell? ⟨b4, 1, none⟩ = some (.int .i64 x.f1)) (ds := []) (bt_ 8 0) (by kernel_rfl) rfl rfl HSS (fun hHeld => ?_)
          clear HSS y0 y1 y2 y3
          generalize W24.drew = W25 at P4 P8 QG1 QG2 RA HB HLn ZZ hHeld ⊢
          refine pu_ 0 (some 175) (bt_ 8 1) (by kernel_rfl) ?_
          refine pu_ 1 (some 176) (bt_ 8 3) (by kernel_rfl) ?_
          refine pu_ 2 (some 177) (bt_ 8 7) (by kernel_rfl) ?_
          refine pu_ 3 (some 178) (bt_ 8 15) (by kernel_rfl) ?_
          refine tk_ 4 (some 179) (bt_ 8 31) (by kernel_rfl) hHeld ?_
          refine pu_ 5 (some 180) (bt_ 8 63) (by kernel_rfl) ?_
          refine tk_ 6 (some 181) (bt_ 8 127) (by kernel_rfl) hHeld ?_
          refine pu_ 7 (some 182) (bt_ 8 255) (by kernel_rfl) ?_
          clear hHeld
          refine done_ (by kernel_rfl) ?_
          go_wp2_with (fail)
          try (go_wp2_with (fail))
          go_roundw
          case rel => exact ⟨n + 1, (by first | exact congrArg (Value.int .i64) (by rw [HCN.out, if_pos HE_.out]; omega)), (by first | rfl | exact congrArg (Value.int .i64) (by omega)), ⟨HTn.out⟩, HLn⟩
          case measure =>
           (try rw [hwn])
           show la.length - ((n : Int) + 1).toNat < la.length - (n : Int).toNat
           have := HTn.out
           omega
         ·have he : (y.f0 == x.f0) = false := beq_eq_false_iff_ne.mpr he_
          have HE_ := Aside0.mk he_
          clear he_
          have P4 := kbd P4
          have P8 := kbd P8
          have QG1 := kwd QG1
          have QG2 := kwd QG2
          have RA := kwd RA
          have HB := khd HB
          have HLn := khd HLn
          have ZZ := Aside0.mk (And.intro ZZ.out (show W23.heap.size ≤ (W23.drew).heap.size from Nat.le_refl _))
          have HSS := (show (W23.drew).cell? (adn.add (n * 4)) = some (.int .i64 y.f0) ∧ (W23.drew).cell? ⟨b4, 0, none⟩ = some (.int .i64 x.f0) from ⟨y0, (blk_cell P4.out 0).trans rfl⟩)
          refine start_ (n := 8) (S := fun w' => w'.cell? (adn.add (n * 4)) = some (.int .i64 y.f0) ∧ w'.cell? ⟨b4, 0, none⟩ = some (.int .i64 x.f0)) (ds := []) (bt_ 8 0) (by kernel_rfl) rfl rfl HSS (fun hHeld => ?_)
          clear HSS y0 y1 y2 y3
          generalize W23.drew = W26 at P4 P8 QG1 QG2 RA HB HLn ZZ hHeld ⊢
          refine pu_ 0 (some 165) (bt_ 8 1) (by kernel_rfl) ?_
          refine pu_ 1 (some 166) (bt_ 8 3) (by kernel_rfl) ?_
          refine pu_ 2 (some 167) (bt_ 8 7) (by kernel_rfl) ?_
          refine pu_ 3 (some 168) (bt_ 8 15) (by kernel_rfl) ?_
          refine tk_ 4 (some 169) (bt_ 8 31) (by kernel_rfl) hHeld ?_
          refine pu_ 5 (some 170) (bt_ 8 63) (by kernel_rfl) ?_
          refine tk_ 6 (some 171) (bt_ 8 127) (by kernel_rfl) hHeld ?_
          refine pu_ 7 (some 172) (bt_ 8 255) (by kernel_rfl) ?_
          clear hHeld
          refine done_ (by kernel_rfl) ?_
          go_wp2_with (fail)
          try (go_wp2_with (fail))
          go_roundw
          case rel => exact ⟨n + 1, (by first | exact congrArg (Value.int .i64) (by rw [HCN.out, if_neg HE_.out]; omega)), (by first | rfl | exact congrArg (Value.int .i64) (by omega)), ⟨HTn.out⟩, HLn⟩
          case measure =>
           (try rw [hwn])
           show la.length - ((n : Int) + 1).toNat < la.length - (n : Int).toNat
           have := HTn.out
           omega
        ·have hdl : decide (n < la.length) = false := decide_eq_false hlt
         obtain rfl : la.length = n := by have := HXn.out; omega
         clear hlt
         rw [List.take_length, HCT.out]
         go_wp2_with (fail)
         go_ret
         exact ⟨rfl, HB.out⟩
   all_goals (have hqd := decide_eq_true hq)
   all_goals (
    have hP8_0 := (blk_cell P8.out 0).trans (show _ = some (.int .i64 r1) from rfl)
    have hP8_1 := (blk_cell P8.out 1).trans (show _ = some (.slice H1 r2.length h1_) from rfl)
    have hP8_2 := (blk_cell P8.out 2).trans (show _ = some (.slice H2 r3.length h2_) from rfl)
    have hP5_0 := (blk_cell P5.out 0).trans (show _ = some (.int .i64 r1) from rfl)
    have hP5_1 := (blk_cell P5.out 1).trans (show _ = some (.slice V1 r2.length v1_) from rfl)
    have hP5_2 := (blk_cell P5.out 2).trans (show _ = some (.slice V2 r3.length v2_) from rfl)
    have hP3_0 := (blk_cell P3.out 0).trans (show _ = some (.int .i64 s) from rfl)
    have hP3_1 := (blk_cell P3.out 1).trans (show _ = some (.slice A1 l1.length c1) from rfl)
    have hP3_2 := (blk_cell P3.out 2).trans (show _ = some (.slice A2 l2.length c2) from rfl)
    have hP4_0 := (blk_cell P4.out 0).trans (show _ = some (.int .i64 x.f0) from rfl)
    have hP4_1 := (blk_cell P4.out 1).trans (show _ = some (.int .i64 x.f1) from rfl)
    have hP4_2 := (blk_cell P4.out 2).trans (show _ = some (.bool x.f2) from rfl)
    have hP4_3 := (blk_cell P4.out 3).trans (show _ = some (.bool x.f3) from rfl)
    go_wp2_with (fail)
    clear hP8_0 hP8_1 hP8_2 hP5_0 hP5_1 hP5_2 hP3_0 hP3_1 hP3_2 hP4_0 hP4_1 hP4_2 hP4_3
    refine (loLock_eq r1 H1 h1_ r2 H2 h2_ r3 V1 v1_ V2 v2_ W13 (QG1.out.reads).2.2 (QG1.out.reads).2.1 (QG2.out.reads).2.2 (QG2.out.reads).2.1 (QW1.out.reads).2.2 (QW1.out.reads).2.1 (QW2.out.reads).2.2 (QW2.out.reads).2.1 (by have := HLR.out; omega) (by have := HLR.out; omega)).mono ?_
    rintro e W27 ⟨rfl, hb⟩
    have ZZ := Aside0.mk (And.intro ZZ.out ((hb).size))
    have P3 := kb P3 (hb)
    have P4 := kb P4 (hb)
    have P5 := kb P5 (hb)
    have P8 := kb P8 (hb)
    have R1 := kw R1 (hb)
    have R2 := kw R2 (hb)
    have QW1 := kw QW1 (hb)
    have QW2 := kw QW2 (hb)
    have QW5 := kw QW5 (hb)
    have QG1 := kw QG1 (hb)
    have QG2 := kw QG2 (hb)
    have QG5 := kw QG5 (hb)
    have HB := kh HB (hb)
    clear hb
    go_wp2_with (fail)
    refine (loHolds_eq H5 h5_ r5 V5 v5_ W27 (QG5.out.reads).2.2 (QG5.out.reads).2.1 (QW5.out.reads).2.2 (QW5.out.reads).2.1 (by have := HLR.out; omega)).mono ?_
    rintro e W28 ⟨rfl, hb⟩
    have ZZ := Aside0.mk (And.intro ZZ.out ((hb).size))
    have P3 := kb P3 (hb)
    have P4 := kb P4 (hb)
    have P5 := kb P5 (hb)
    have P8 := kb P8 (hb)
    have R1 := kw R1 (hb)
    have R2 := kw R2 (hb)
    have QW1 := kw QW1 (hb)
    have QW2 := kw QW2 (hb)
    have QW5 := kw QW5 (hb)
    have QG1 := kw QG1 (hb)
    have QG2 := kw QG2 (hb)
    have QG5 := kw QG5 (hb)
    have HB := kh HB (hb)
    clear hb
    go_wp2_with (fail)
    go_ret
    exact ⟨rfl, HB.out⟩)
theorem laws_FnLockTry.walk (a0 : Option Addr) (len0 cap0 : Nat) (z0 : List Int) (w : World) (w0 : ((a0 = none ∧ len0 = 0 ∧ cap0 = 0 ∧ z0 = []) ∨ ∃ x, a0 = some x ∧ len0 ≤ cap0 ∧ cap0 ≤ maxLen ∧ z0.length = cap0 ∧ (∀ i, i < z0.length → w.cell? (x.add i) = some (.int .u8 (z0.getD i 0))) ∧ ∀ n ∈ z0, (Lit.int .u8 n).wf = true)) : Calls Try.prog 11 #[.slice a0 len0 cap0] w fun e w' => e = .returned (.bool true) ∧ Below w.heap.size w w' := by
 obtain ⟨l0, rfl, hr0, hm0, hw0, hc0⟩ := ReadsInt.ofRowC w0
 exact FnLockTry_main _ _ l0 w (Kd.C_of_reads (d := (0 : Int)) (h1 := fun _ => rfl) hr0) hc0 hw0
end Go.Proofs.Ytjldpnhlegbjkaa.PA
