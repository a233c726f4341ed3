/- What DrawLockAsk, DrawLockFirm and DrawLockFree draw: a lock of one's own, its lists short. -/
import Derived.Test.YtjldpnhlegbjkaaD1
import Derived.Deep.Cut
namespace Go.Proofs.Ytjldpnhlegbjkaa.PA
open Go.RowKit Go.Proofs.YtjldpnhlegbjkaaW.PrintWords Go.Proofs.YtjldpnhlegbjkaaW.PrintLast Go.Proofs.YtjldpnhlegbjkaaW.PrintMore Go.Proofs.Ytjldpnhlegbjkaa.PB
attribute [local go_sem] max2_int min2_int max_two min_two max_three min_three max_four min_four
set_option linter.unusedVariables false
set_option linter.unusedSimpArgs false
def AskPost (w : World) (e : Ending) (w' : World) : Prop := ∃ (s : Int) (l1 l2 : List S45) (v1 v2 : Value) (x : S45), x.f1 ≤ 9999 ∧ e = .returned (.tuple #[.agg #[.int .i64 s, v1, v2], .agg #[.int .i64 x.f0, .int .i64 x.f1, .bool x.f2, .bool x.f3]]) ∧ Kd.R k45 45 w' w.heap.size (fun k => some k ≠ v2.ownBlock) v1 l1 ∧ Kd.R k45 45 w' w.heap.size (fun k => some k ≠ v1.ownBlock) v2 l2 ∧ (l1.length ≤ 64 ∧ l2.length ≤ 64) ∧ Below w.heap.size w w'
def FirmPost (w : World) (e : Ending) (w' : World) : Prop := ∃ (s : Int) (l1 l2 : List S45) (v1 v2 : Value) (st ty : Int), e = .returned (.tuple #[.agg #[.int .i64 s, v1, v2], .int .i64 st, .int .i64 ty]) ∧ Kd.R k45 45 w' w.heap.size (fun k => some k ≠ v2.ownBlock) v1 l1 ∧ Kd.R k45 45 w' w.heap.size (fun k => some k ≠ v1.ownBlock) v2 l2 ∧ (l1.length ≤ 64 ∧ l2.length ≤ 64) ∧ Below w.heap.size w w'
set_option maxHeartbeats 8000000 in
set_option maxRecDepth 100000 in
theorem drawAsk_calls (A0 : Option Addr) (c0 : Nat) (l0 : List Int) (w : World) (hr0 : Kd.C (Kd.int .u8) w A0 l0.length l0) (hc0 : l0.length ≤ c0) (hw : ∀ x ∈ l0, (Lit.int .u8 x).wf = true) :
 Calls Try.prog 35 #[.slice A0 l0.length c0] w (AskPost w) := by
 have hu29 := Try.underlying29
 have hu45 := Try.underlying45
 have HR0 := Aside0.mk hr0
 have HC0 := Aside0.mk hc0
 obtain ⟨b, hop, hby⟩ := open_eq l0 hw
 have HOP := Aside0.mk hop
 have HBY := Aside0.mk hby
 clear hr0 hc0 hw hop hby
 have HB := Aside0.mk (below_alloc (below_alloc (Below.refl w.heap.size w) (.cells #[.int .i64 0, .slice none 0 0, .slice none 0 0] 29 (0, 0))) (.cells #[.int .i64 0, .int .i64 0, .bool false, .bool false] 45 (0, 0)))
 have P2 := Aside0.mk (blk_alloc (blk_new w (.cells #[.int .i64 0, .slice none 0 0, .slice none 0 0] 29 (0, 0))) (.cells #[.int .i64 0, .int .i64 0, .bool false, .bool false] 45 (0, 0)))
 have P3 := Aside0.mk (blk_new (w.alloc (.cells #[.int .i64 0, .slice none 0 0, .slice none 0 0] 29 (0, 0))) (.cells #[.int .i64 0, .int .i64 0, .bool false, .bool false] 45 (0, 0)))
 have hs1 : (w.alloc (.cells #[.int .i64 0, .slice none 0 0, .slice none 0 0] 29 (0, 0))).heap.size = w.heap.size + 1 := by simp
 rw [hs1] at P3
 clear hs1
 go_enter Try.func35, Try.ntmps35
 go_wp2_with (fail)
 generalize (w.alloc (.cells #[.int .i64 0, .slice none 0 0, .slice none 0 0] 29 (0, 0))).alloc (.cells #[.int .i64 0, .int .i64 0, .bool false, .bool false] 45 (0, 0)) = W1 at HB P2 P3 ⊢
 obtain ⟨b3, hb3⟩ : ∃ b3, b3 = w.heap.size + 1 := ⟨_, rfl⟩
 rw [← hb3] at P3 ⊢
 have Z1 := Aside0.mk (show w.heap.size < b3 by omega)
 have Z2 := Aside0.mk (blk_lt P3.out)
 clear hb3
 have ZZ := Aside0.mk (And.intro Z1.out Z2.out)
 refine (spec_l6Open.calls A0 c0 l0 b 0 w W1 HB.out HR0.out HC0.out HOP.out).mono ?_
 rintro e W2 ⟨g, rfl, hi, hb0, hb⟩
 clear hb0
 have ZZ := Aside0.mk (And.intro ZZ.out ((hb).size))
 have P2 := kb P2 (hb)
 have P3 := kb P3 (hb)
 have HB := kh HB (hb)
 clear hb
 have I := Aside0.mk hi
 clear hi
 have HQ : Aside0 ((0 : Int) ≤ 0) := ⟨by omega⟩
 go_wp2_with (fail)
 refine (drawLock_calls g b 0 w W2 I.out HB.out HBY.out (by omega)).mono ?_
 rintro e W3 ⟨s, l1, l2, v1, v2, q, rfl, q1, q2, hl, hi, hq, hb, hk⟩
 obtain ⟨A1, c1, e0⟩ := Kd.R_slice q1
 subst e0
 obtain ⟨A2, c2, e0⟩ := Kd.R_slice q2
 subst e0
 have SEP := Aside0.mk (show ∀ k, (Value.slice A1 l1.length c1).ownBlock = some k → (Value.slice A2 l2.length c2).ownBlock ≠ some k from fun k hk e => (q1.1 k hk) e.symm)
 have q1 := Rw.of q1 HB.out.size
 have q2 := Rw.of q2 HB.out.size
 have HL := Aside0.mk hl
 have HQ := Aside0.mk hq
 clear hl hq
 have ZZ := Aside0.mk (And.intro ZZ.out (hk.1))
 have P2 := kbI P2 I hk
 have P3 := kbI P3 I hk
 have HB := Aside0.mk hb
 have I := Aside0.mk hi
 clear hi hb hk
 have R1 := Aside0.mk q1
 have R2 := Aside0.mk q2
 clear q1 q2
 have hb := below_alloc (Below.refl W3.heap.size W3) (.cells #[.int .i64 s, .slice A1 l1.length c1, .slice A2 l2.length c2] 29 (0, 0))
 have ZZ := Aside0.mk (And.intro ZZ.out ((hb).size))
 have P2 := kb P2 (hb)
 have P3 := kb P3 (hb)
 have R1 := kw R1 (hb)
 have R2 := kw R2 (hb)
 have HB := kh HB (hb)
 have I := ki I (hb)
 clear hb
 have P5 := Aside0.mk (blk_new W3 (.cells #[.int .i64 s, .slice A1 l1.length c1, .slice A2 l2.length c2] 29 (0, 0)))
 have ZZ := Aside0.mk (And.intro ZZ.out (blk_lt P5.out))
 go_wp2_with (fail)
 generalize W3.alloc (.cells #[.int .i64 s, .slice A1 l1.length c1, .slice A2 l2.length c2] 29 (0, 0)) = W4 at ZZ P2 P3 P5 R1 R2 HB I ⊢
 obtain ⟨b5, hq_⟩ : ∃ b5, b5 = W3.heap.size := ⟨_, rfl⟩
 rw [← hq_] at P5 ZZ ⊢
 have ZZ := Aside0.mk (And.intro ZZ.out (hq_))
 clear hq_
 refine (holdW g b _ w W4 I.out HB.out HBY.out (by have := HQ.out; omega) (by have := HQ.out; omega)).mono ?_
 rintro e W5 ⟨x, hx9, rfl, hi, hb, hk⟩
 have HX9 := Aside0.mk hx9
 clear hx9
 have ZZ := Aside0.mk (And.intro ZZ.out (hk.1))
 have P2 := kbI P2 I hk
 have P3 := kbI P3 I hk
 have P5 := kbI P5 I hk
 have R1 := kwI R1 I hk
 have R2 := kwI R2 I hk
 have HB := Aside0.mk hb
 have I := Aside0.mk hi
 clear hi hb hk
 have hb := below_alloc (Below.refl W5.heap.size W5) (.cells #[.int .i64 x.f0, .int .i64 x.f1, .bool x.f2, .bool x.f3] 45 (0, 0))
 have ZZ := Aside0.mk (And.intro ZZ.out ((hb).size))
 have P2 := kb P2 (hb)
 have P3 := kb P3 (hb)
 have P5 := kb P5 (hb)
 have R1 := kw R1 (hb)
 have R2 := kw R2 (hb)
 have HB := kh HB (hb)
 have I := ki I (hb)
 clear hb
 have P6 := Aside0.mk (blk_new W5 (.cells #[.int .i64 x.f0, .int .i64 x.f1, .bool x.f2, .bool x.f3] 45 (0, 0)))
 have ZZ := Aside0.mk (And.intro ZZ.out (blk_lt P6.out))
 go_wp2_with (fail)
 generalize W5.alloc (.cells #[.int .i64 x.f0, .int .i64 x.f1, .bool x.f2, .bool x.f3] 45 (0, 0)) = W6 at ZZ P2 P3 P5 P6 R1 R2 HB I ⊢
 obtain ⟨b6, hq_⟩ : ∃ b6, b6 = W5.heap.size := ⟨_, rfl⟩
 rw [← hq_] at P6 ZZ ⊢
 have ZZ := Aside0.mk (And.intro ZZ.out (hq_))
 clear hq_
 refine (pickW g b _ 12 w W6 I.out HB.out HBY.out (by have := HQ.out; omega) (by have := HQ.out; omega) (by omega) (by omega)).mono ?_
 rintro e W7 ⟨t, ht0_, ht1_, rfl, hi, hb, hk⟩
 have Tt := Aside0.mk (And.intro ht0_ ht1_)
 clear ht0_ ht1_
 have ZZ := Aside0.mk (And.intro ZZ.out (hk.1))
 have P2 := kbI P2 I hk
 have P3 := kbI P3 I hk
 have P5 := kbI P5 I hk
 have P6 := kbI P6 I hk
 have R1 := kwI R1 I hk
 have R2 := kwI R2 I hk
 have HB := Aside0.mk hb
 have I := Aside0.mk hi
 clear hi hb hk
 by_cases d0 : t = 0
 ·have d0a : (t == 0) = true := beq_iff_eq.mpr d0
  clear d0
  have hb0 := (blk_cell P6.out 0).trans (show _ = some (.int .i64 x.f0) from rfl)
  have hbf0 := blk_frozen P6.out 0
  have hb1 := (blk_cell P6.out 1).trans (show _ = some (.int .i64 x.f1) from rfl)
  have hbf1 := blk_frozen P6.out 1
  have hb2 := (blk_cell P6.out 2).trans (show _ = some (.bool x.f2) from rfl)
  have hbf2 := blk_frozen P6.out 2
  have hb3 := (blk_cell P6.out 3).trans (show _ = some (.bool x.f3) from rfl)
  have hbf3 := blk_frozen P6.out 3
  have NE_ : g ≠ b6 := IsS87.ne_blk I.out P6.out (by decide)
  have P2 := Aside0.mk (blk_far (p := ⟨b6, 3, none⟩) P2.out (show w.heap.size ≠ b6 by have := ZZ.out; omega) (.bool true))
  have P3 := Aside0.mk (blk_far (p := ⟨b6, 3, none⟩) P3.out (show b3 ≠ b6 by have := ZZ.out; omega) (.bool true))
  have P5 := Aside0.mk (blk_far (p := ⟨b6, 3, none⟩) P5.out (show b5 ≠ b6 by have := ZZ.out; omega) (.bool true))
  have P6 := Aside0.mk (blk_put (cs' := #[.int .i64 x.f0, .int .i64 x.f1, .bool x.f2, .bool true]) P6.out 3 (.bool true) rfl)
  have R1 := Aside0.mk (Rw.cell (b := b6) (j := 3) (u := .bool true) R1.out (by have := ZZ.out; omega))
  have R2 := Aside0.mk (Rw.cell (b := b6) (j := 3) (u := .bool true) R2.out (by have := ZZ.out; omega))
  have HB := Aside0.mk (below_set (g := b6) (j := 3) (v := .bool true) HB.out (show w.heap.size ≤ b6 by have := ZZ.out; omega))
  have I := Aside0.mk (IsS87.far (p := ⟨b6, 3, none⟩) I.out NE_ (.bool true))
  clear NE_
  have ZZ := Aside0.mk (And.intro ZZ.out (show W7.heap.size ≤ (W7.setCell ⟨b6, 3, none⟩ (.bool true)).heap.size by simp))
  go_wp2_with (fail)
  clear hb0 hbf0 hb1 hbf1 hb2 hbf2 hb3 hbf3
  generalize W7.setCell ⟨b6, 3, none⟩ (.bool true) = W8 at P2 P3 P5 P6 R1 R2 HB I ZZ ⊢
  have P2 := kbd P2
  have P3 := kbd P3
  have P5 := kbd P5
  have P6 := kbd P6
  have R1 := kwd R1
  have R2 := kwd R2
  have HB := khd HB
  have I := kid I
  have ZZ := Aside0.mk (And.intro ZZ.out (show W8.heap.size ≤ (W8.drew).heap.size from Nat.le_refl _))
  have HSS := (show (W8.drew).heap[b5]? = some (.cells #[.int .i64 s, .slice A1 l1.length c1, .slice A2 l2.length c2] 29 (0, 0)) ∧ (W8.drew).heap[b6]? = some (.cells #[.int .i64 x.f0, .int .i64 x.f1, .bool x.f2, .bool true] 45 (0, 0)) from ⟨P5.out, P6.out⟩)
  refine start_ (n := 4) (S := fun w' => w'.heap[b5]? = some (.cells #[.int .i64 s, .slice A1 l1.length c1, .slice A2 l2.length c2] 29 (0, 0)) ∧ w'.heap[b6]? = some (.cells #[.int .i64 x.f0, .int .i64 x.f1, .bool x.f2, .bool true] 45 (0, 0))) (ds := []) (bt_ 4 0) (by kernel_rfl) rfl rfl HSS (fun hHeld => ?_)
  clear HSS
  generalize W8.drew = W9 at P2 P3 P5 P6 R1 R2 HB I ZZ hHeld ⊢
  refine ld_ 0 (some 29) (bt_ 4 1) b5 29 (.tmp 5) #[.int .i64 s, .slice A1 l1.length c1, .slice A2 l2.length c2] _ (by kernel_rfl) hHeld (fun _ h_ => h_.1) hu29 rfl (by kernel_rfl) ?_
  refine ld_ 1 (some 30) (bt_ 4 3) b6 45 (.tmp 6) #[.int .i64 x.f0, .int .i64 x.f1, .bool x.f2, .bool true] _ (by kernel_rfl) hHeld (fun _ h_ => h_.2) hu45 rfl (by kernel_rfl) ?_
  clear hHeld
  refine one_ (i := 2) (N := none) (bt_ 4 7) rfl rfl (by kernel_rfl) (by decide) (fun K hK => ?_)
  refine st_ rfl 29 (.tmp 2) (.tmp 29) rfl w.heap.size #[.int .i64 s, .slice A1 l1.length c1, .slice A2 l2.length c2] rfl rfl 29 #[.int .i64 0, .slice none 0 0, .slice none 0 0] P2.out (by kernel_rfl) rfl (by simp [Value.oneCell']) ?_
  have NE_ : g ≠ w.heap.size := IsS87.ne_blk I.out P2.out (by decide)
  obtain ⟨W10, e_⟩ : ∃ X, X = W9.setRow w.heap.size #[.int .i64 s, .slice A1 l1.length c1, .slice A2 l2.length c2] := ⟨_, rfl⟩
  rw [← e_]
  have P3 := kbs P3 e_ (by have := ZZ.out; omega)
  have P5 := kbs P5 e_ (by have := ZZ.out; omega)
  have P6 := kbs P6 e_ (by have := ZZ.out; omega)
  have R1 := kws R1 e_ (by have := ZZ.out; omega)
  have R2 := kws R2 e_ (by have := ZZ.out; omega)
  have P2 := kps P2 e_
  have HB := khs HB e_ (by have := ZZ.out; omega)
  have I := kis I e_ NE_
  clear NE_
  have ZZ := Aside0.mk (And.intro ZZ.out (kzs e_))
  clear e_
  refine hK.out _ _ ⟨P5.out, P6.out⟩ (fun hHeld => ?_)
  clear hK K
  refine norm_ (a' := ?_) ?_ ?_
  rotate_left
  ·show Act.put _ none _ = _
   simp only [Act.put, List.setIfInBounds_toArray, List.set_cons_zero, List.set_cons_succ, i64_w, i32_w]
   rfl
  clear hHeld
  refine one_ (i := 3) (N := none) (bt_ 4 15) rfl rfl (by kernel_rfl) (by decide) (fun K hK => ?_)
  refine st_ rfl 45 (.tmp 3) (.tmp 30) rfl b3 #[.int .i64 x.f0, .int .i64 x.f1, .bool x.f2, .bool true] rfl rfl 45 #[.int .i64 0, .int .i64 0, .bool false, .bool false] P3.out (by kernel_rfl) rfl (by simp [Value.oneCell']) ?_
  have NE_ : g ≠ b3 := IsS87.ne_blk I.out P3.out (by decide)
  obtain ⟨W11, e_⟩ : ∃ X, X = W10.setRow b3 #[.int .i64 x.f0, .int .i64 x.f1, .bool x.f2, .bool true] := ⟨_, rfl⟩
  rw [← e_]
  have P2 := kbs P2 e_ (by have := ZZ.out; omega)
  have P5 := kbs P5 e_ (by have := ZZ.out; omega)
  have P6 := kbs P6 e_ (by have := ZZ.out; omega)
  have R1 := kws R1 e_ (by have := ZZ.out; omega)
  have R2 := kws R2 e_ (by have := ZZ.out; omega)
  have P3 := kps P3 e_
  have HB := khs HB e_ (by have := ZZ.out; omega)
  have I := kis I e_ NE_
  clear NE_
  have ZZ := Aside0.mk (And.intro ZZ.out (kzs e_))
  clear e_
  refine hK.out _ _ ⟨P5.out, P6.out⟩ (fun hHeld => ?_)
  clear hK K
  refine norm_ (a' := ?_) ?_ ?_
  rotate_left
  ·show Act.put _ none _ = _
   simp only [Act.put, List.setIfInBounds_toArray, List.set_cons_zero, List.set_cons_succ, i64_w, i32_w]
   rfl
  clear hHeld
  refine done_ (by kernel_rfl) ?_
  iterate 12 (try go_step)
  refine bodyPost_ret (results_cc rfl _ _ w.heap.size b3 29 45 #[.int .i64 s, .slice A1 l1.length c1, .slice A2 l2.length c2] #[.int .i64 x.f0, .int .i64 x.f1, .bool x.f2, .bool true] (0, 0) (0, 0) _ _ rfl P2.out hu29 rfl (by kernel_rfl) rfl P3.out hu45 rfl (by kernel_rfl)) rfl ?_
  exact ⟨s, l1, l2, .slice A1 l1.length c1, .slice A2 l2.length c2, ⟨x.f0, x.f1, x.f2, true⟩, HX9.out, rfl, Rw.own_ R1.out (fun k hk e => SEP.out k hk e.symm), Rw.own_ R2.out (fun k hk e => SEP.out k e.symm hk), HL.out, HB.out⟩
 ·have d0a : (t == 0) = false := beq_eq_false_iff_ne.mpr d0
  clear d0
  by_cases d1 : t = 1
  ·have d1a : (t == 1) = true := beq_iff_eq.mpr d1
   clear d1
   have hb := below_alloc (Below.refl W7.heap.size W7) (.cells #[.int .i64 0, .int .i64 9999, .int .i64 10000] 3)
   have ZZ := Aside0.mk (And.intro ZZ.out ((hb).size))
   have P2 := kb P2 (hb)
   have P3 := kb P3 (hb)
   have P5 := kb P5 (hb)
   have P6 := kb P6 (hb)
   have R1 := kw R1 (hb)
   have R2 := kw R2 (hb)
   have HB := kh HB (hb)
   have I := ki I (hb)
   clear hb
   have PA := Aside0.mk (blk_new W7 (.cells #[.int .i64 0, .int .i64 9999, .int .i64 10000] 3))
   have ZZ := Aside0.mk (And.intro ZZ.out (blk_lt PA.out))
   go_wp2_with (fail)
   generalize W7.alloc (.cells #[.int .i64 0, .int .i64 9999, .int .i64 10000] 3) = W12 at ZZ P2 P3 P5 P6 PA R1 R2 HB I ⊢
   obtain ⟨bA, hq_⟩ : ∃ bA, bA = W7.heap.size := ⟨_, rfl⟩
   rw [← hq_] at PA ZZ ⊢
   have ZZ := Aside0.mk (And.intro ZZ.out (hq_))
   clear hq_
   refine (pickW g b _ 3 w W12 I.out HB.out HBY.out (by have := HQ.out; omega) (by have := HQ.out; omega) (by omega) (by omega)).mono ?_
   rintro e W13 ⟨tj, ht0_, ht1_, rfl, hi, hb, hk⟩
   have Ttj := Aside0.mk (And.intro ht0_ ht1_)
   clear ht0_ ht1_
   have ZZ := Aside0.mk (And.intro ZZ.out (hk.1))
   have P2 := kbI P2 I hk
   have P3 := kbI P3 I hk
   have P5 := kbI P5 I hk
   have P6 := kbI P6 I hk
   have PA := kbI PA I hk
   have R1 := kwI R1 I hk
   have R2 := kwI R2 I hk
   have HB := Aside0.mk hb
   have I := Aside0.mk hi
   clear hi hb hk
   obtain ⟨y, hy⟩ : ∃ y : Int, (#[Value.int .i64 0, .int .i64 9999, .int .i64 10000])[tj.toNat]? = some (.int .i64 y) := by
    have h := Ttj.out
    rcases (show tj = 0 ∨ tj = 1 ∨ tj = 2 by omega) with rfl | rfl | rfl
    ·exact ⟨0, rfl⟩
    ·exact ⟨9999, rfl⟩
    ·exact ⟨10000, rfl⟩
   have hl_ : W13.cell? ⟨bA, tj.toNat, none⟩ = some (.int .i64 y) := (blk_cell PA.out tj.toNat).trans hy
   clear hy
   have pj_ : (0 ≤ tj) = True := eq_true Ttj.out.1
   have qj_ : (tj < 3) = True := eq_true Ttj.out.2
   have hb0 := (blk_cell P6.out 0).trans (show _ = some (.int .i64 x.f0) from rfl)
   have hbf0 := blk_frozen P6.out 0
   have hb1 := (blk_cell P6.out 1).trans (show _ = some (.int .i64 x.f1) from rfl)
   have hbf1 := blk_frozen P6.out 1
   have hb2 := (blk_cell P6.out 2).trans (show _ = some (.bool x.f2) from rfl)
   have hbf2 := blk_frozen P6.out 2
   have hb3 := (blk_cell P6.out 3).trans (show _ = some (.bool x.f3) from rfl)
   have hbf3 := blk_frozen P6.out 3
   have NE_ : g ≠ b6 := IsS87.ne_blk I.out P6.out (by decide)
   have P2 := Aside0.mk (blk_far (p := ⟨b6, 0, none⟩) P2.out (show w.heap.size ≠ b6 by have := ZZ.out; omega) (.int .i64 y))
   have P3 := Aside0.mk (blk_far (p := ⟨b6, 0, none⟩) P3.out (show b3 ≠ b6 by have := ZZ.out; omega) (.int .i64 y))
   have P5 := Aside0.mk (blk_far (p := ⟨b6, 0, none⟩) P5.out (show b5 ≠ b6 by have := ZZ.out; omega) (.int .i64 y))
   have PA := Aside0.mk (blk_far (p := ⟨b6, 0, none⟩) PA.out (show bA ≠ b6 by have := ZZ.out; omega) (.int .i64 y))
   have P6 := Aside0.mk (blk_put (cs' := #[.int .i64 y, .int .i64 x.f1, .bool x.f2, .bool x.f3]) P6.out 0 (.int .i64 y) rfl)
   have R1 := Aside0.mk (Rw.cell (b := b6) (j := 0) (u := .int .i64 y) R1.out (by have := ZZ.out; omega))
   have R2 := Aside0.mk (Rw.cell (b := b6) (j := 0) (u := .int .i64 y) R2.out (by have := ZZ.out; omega))
   have HB := Aside0.mk (below_set (g := b6) (j := 0) (v := .int .i64 y) HB.out (show w.heap.size ≤ b6 by have := ZZ.out; omega))
   have I := Aside0.mk (IsS87.far (p := ⟨b6, 0, none⟩) I.out NE_ (.int .i64 y))
   clear NE_
   have ZZ := Aside0.mk (And.intro ZZ.out (show W13.heap.size ≤ (W13.setCell ⟨b6, 0, none⟩ (.int .i64 y)).heap.size by simp))
   go_wp2_with (fail)
   clear hb0 hbf0 hb1 hbf1 hb2 hbf2 hb3 hbf3 hl_ pj_ qj_
   generalize W13.setCell ⟨b6, 0, none⟩ (.int .i64 y) = W14 at P2 P3 P5 P6 PA R1 R2 HB I ZZ ⊢
   have P2 := kbd P2
   have P3 := kbd P3
   have P5 := kbd P5
   have P6 := kbd P6
   have PA := kbd PA
   have R1 := kwd R1
   have R2 := kwd R2
   have HB := khd HB
   have I := kid I
   have ZZ := Aside0.mk (And.intro ZZ.out (show W14.heap.size ≤ (W14.drew).heap.size from Nat.le_refl _))
   have HSS := (show (W14.drew).heap[b5]? = some (.cells #[.int .i64 s, .slice A1 l1.length c1, .slice A2 l2.length c2] 29 (0, 0)) ∧ (W14.drew).heap[b6]? = some (.cells #[.int .i64 y, .int .i64 x.f1, .bool x.f2, .bool x.f3] 45 (0, 0)) from ⟨P5.out, P6.out⟩)
   refine start_ (n := 4) (S := fun w' => w'.heap[b5]? = some (.cells #[.int .i64 s, .slice A1 l1.length c1, .slice A2 l2.length c2] 29 (0, 0)) ∧ w'.heap[b6]? = some (.cells #[.int .i64 y, .int .i64 x.f1, .bool x.f2, .bool x.f3] 45 (0, 0))) (ds := []) (bt_ 4 0) (by kernel_rfl) rfl rfl HSS (fun hHeld => ?_)
   clear HSS
   generalize W14.drew = W15 at P2 P3 P5 P6 PA R1 R2 HB I ZZ hHeld ⊢
   refine ld_ 0 (some 29) (bt_ 4 1) b5 29 (.tmp 5) #[.int .i64 s, .slice A1 l1.length c1, .slice A2 l2.length c2] _ (by kernel_rfl) hHeld (fun _ h_ => h_.1) hu29 rfl (by kernel_rfl) ?_
   refine ld_ 1 (some 30) (bt_ 4 3) b6 45 (.tmp 6) #[.int .i64 y, .int .i64 x.f1, .bool x.f2, .bool x.f3] _ (by kernel_rfl) hHeld (fun _ h_ => h_.2) hu45 rfl (by kernel_rfl) ?_
   clear hHeld
   refine one_ (i := 2) (N := none) (bt_ 4 7) rfl rfl (by kernel_rfl) (by decide) (fun K hK => ?_)
   refine st_ rfl 29 (.tmp 2) (.tmp 29) rfl w.heap.size #[.int .i64 s, .slice A1 l1.length c1, .slice A2 l2.length c2] rfl rfl 29 #[.int .i64 0, .slice none 0 0, .slice none 0 0] P2.out (by kernel_rfl) rfl (by simp [Value.oneCell']) ?_
   have NE_ : g ≠ w.heap.size := IsS87.ne_blk I.out P2.out (by decide)
   obtain ⟨W16, e_⟩ : ∃ X, X = W15.setRow w.heap.size #[.int .i64 s, .slice A1 l1.length c1, .slice A2 l2.length c2] := ⟨_, rfl⟩
   rw [← e_]
   have P3 := kbs P3 e_ (by have := ZZ.out; omega)
   have P5 := kbs P5 e_ (by have := ZZ.out; omega)
   have P6 := kbs P6 e_ (by have := ZZ.out; omega)
   have PA := kbs PA e_ (by have := ZZ.out; omega)
   have R1 := kws R1 e_ (by have := ZZ.out; omega)
   have R2 := kws R2 e_ (by have := ZZ.out; omega)
   have P2 := kps P2 e_
   have HB := khs HB e_ (by have := ZZ.out; omega)
   have I := kis I e_ NE_
   clear NE_
   have ZZ := Aside0.mk (And.intro ZZ.out (kzs e_))
   clear e_
   refine hK.out _ _ ⟨P5.out, P6.out⟩ (fun hHeld => ?_)
   clear hK K
   refine norm_ (a' := ?_) ?_ ?_
   rotate_left
   ·show Act.put _ none _ = _
    simp only [Act.put, List.setIfInBounds_toArray, List.set_cons_zero, List.set_cons_succ, i64_w, i32_w]
    rfl
   clear hHeld
   refine one_ (i := 3) (N := none) (bt_ 4 15) rfl rfl (by kernel_rfl) (by decide) (fun K hK => ?_)
   refine st_ rfl 45 (.tmp 3) (.tmp 30) rfl b3 #[.int .i64 y, .int .i64 x.f1, .bool x.f2, .bool x.f3] rfl rfl 45 #[.int .i64 0, .int .i64 0, .bool false, .bool false] P3.out (by kernel_rfl) rfl (by simp [Value.oneCell']) ?_
   have NE_ : g ≠ b3 := IsS87.ne_blk I.out P3.out (by decide)
   obtain ⟨W17, e_⟩ : ∃ X, X = W16.setRow b3 #[.int .i64 y, .int .i64 x.f1, .bool x.f2, .bool x.f3] := ⟨_, rfl⟩
   rw [← e_]
   have P2 := kbs P2 e_ (by have := ZZ.out; omega)
   have P5 := kbs P5 e_ (by have := ZZ.out; omega)
   have P6 := kbs P6 e_ (by have := ZZ.out; omega)
   have PA := kbs PA e_ (by have := ZZ.out; omega)
   have R1 := kws R1 e_ (by have := ZZ.out; omega)
   have R2 := kws R2 e_ (by have := ZZ.out; omega)
   have P3 := kps P3 e_
   have HB := khs HB e_ (by have := ZZ.out; omega)
   have I := kis I e_ NE_
   clear NE_
   have ZZ := Aside0.mk (And.intro ZZ.out (kzs e_))
   clear e_
   refine hK.out _ _ ⟨P5.out, P6.out⟩ (fun hHeld => ?_)
   clear hK K
   refine norm_ (a' := ?_) ?_ ?_
   rotate_left
   ·show Act.put _ none _ = _
    simp only [Act.put, List.setIfInBounds_toArray, List.set_cons_zero, List.set_cons_succ, i64_w, i32_w]
    rfl
   clear hHeld
   refine done_ (by kernel_rfl) ?_
   iterate 12 (try go_step)
   refine bodyPost_ret (results_cc rfl _ _ w.heap.size b3 29 45 #[.int .i64 s, .slice A1 l1.length c1, .slice A2 l2.length c2] #[.int .i64 y, .int .i64 x.f1, .bool x.f2, .bool x.f3] (0, 0) (0, 0) _ _ rfl P2.out hu29 rfl (by kernel_rfl) rfl P3.out hu45 rfl (by kernel_rfl)) rfl ?_
   exact ⟨s, l1, l2, .slice A1 l1.length c1, .slice A2 l2.length c2, ⟨y, x.f1, x.f2, x.f3⟩, HX9.out, rfl, Rw.own_ R1.out (fun k hk e => SEP.out k hk e.symm), Rw.own_ R2.out (fun k hk e => SEP.out k e.symm hk), HL.out, HB.out⟩
  ·have d1a : (t == 1) = false := beq_eq_false_iff_ne.mpr d1
   clear d1
   by_cases d2 : t = 2
   ·have d2a : (t == 2) = true := beq_iff_eq.mpr d2
    clear d2
    have hb0 := (blk_cell P6.out 0).trans (show _ = some (.int .i64 x.f0) from rfl)
    have hbf0 := blk_frozen P6.out 0
    have hb1 := (blk_cell P6.out 1).trans (show _ = some (.int .i64 x.f1) from rfl)
    have hbf1 := blk_frozen P6.out 1
    have hb2 := (blk_cell P6.out 2).trans (show _ = some (.bool x.f2) from rfl)
    have hbf2 := blk_frozen P6.out 2
    have hb3 := (blk_cell P6.out 3).trans (show _ = some (.bool x.f3) from rfl)
    have hbf3 := blk_frozen P6.out 3
    have NE_ : g ≠ b6 := IsS87.ne_blk I.out P6.out (by decide)
    have P2 := Aside0.mk (blk_far (p := ⟨b6, 1, none⟩) P2.out (show w.heap.size ≠ b6 by have := ZZ.out; omega) (.int .i64 0))
    have P3 := Aside0.mk (blk_far (p := ⟨b6, 1, none⟩) P3.out (show b3 ≠ b6 by have := ZZ.out; omega) (.int .i64 0))
    have P5 := Aside0.mk (blk_far (p := ⟨b6, 1, none⟩) P5.out (show b5 ≠ b6 by have := ZZ.out; omega) (.int .i64 0))
    have P6 := Aside0.mk (blk_put (cs' := #[.int .i64 x.f0, .int .i64 0, .bool x.f2, .bool x.f3]) P6.out 1 (.int .i64 0) rfl)
    have R1 := Aside0.mk (Rw.cell (b := b6) (j := 1) (u := .int .i64 0) R1.out (by have := ZZ.out; omega))
    have R2 := Aside0.mk (Rw.cell (b := b6) (j := 1) (u := .int .i64 0) R2.out (by have := ZZ.out; omega))
    have HB := Aside0.mk (below_set (g := b6) (j := 1) (v := .int .i64 0) HB.out (show w.heap.size ≤ b6 by have := ZZ.out; omega))
    have I := Aside0.mk (IsS87.far (p := ⟨b6, 1, none⟩) I.out NE_ (.int .i64 0))
    clear NE_
    have ZZ := Aside0.mk (And.intro ZZ.out (show W7.heap.size ≤ (W7.setCell ⟨b6, 1, none⟩ (.int .i64 0)).heap.size by simp))
    go_wp2_with (fail)
    clear hb0 hbf0 hb1 hbf1 hb2 hbf2 hb3 hbf3
    generalize W7.setCell ⟨b6, 1, none⟩ (.int .i64 0) = W18 at P2 P3 P5 P6 R1 R2 HB I ZZ ⊢
    have P2 := kbd P2
    have P3 := kbd P3
    have P5 := kbd P5
    have P6 := kbd P6
    have R1 := kwd R1
    have R2 := kwd R2
    have HB := khd HB
    have I := kid I
    have ZZ := Aside0.mk (And.intro ZZ.out (show W18.heap.size ≤ (W18.drew).heap.size from Nat.le_refl _))
    have HSS := (show (W18.drew).heap[b5]? = some (.cells #[.int .i64 s, .slice A1 l1.length c1, .slice A2 l2.length c2] 29 (0, 0)) ∧ (W18.drew).heap[b6]? = some (.cells #[.int .i64 x.f0, .int .i64 0, .bool x.f2, .bool x.f3] 45 (0, 0)) from ⟨P5.out, P6.out⟩)
    refine start_ (n := 4) (S := fun w' => w'.heap[b5]? = some (.cells #[.int .i64 s, .slice A1 l1.length c1, .slice A2 l2.length c2] 29 (0, 0)) ∧ w'.heap[b6]? = some (.cells #[.int .i64 x.f0, .int .i64 0, .bool x.f2, .bool x.f3] 45 (0, 0))) (ds := []) (bt_ 4 0) (by kernel_rfl) rfl rfl HSS (fun hHeld => ?_)
    clear HSS
    generalize W18.drew = W19 at P2 P3 P5 P6 R1 R2 HB I ZZ hHeld ⊢
    refine ld_ 0 (some 29) (bt_ 4 1) b5 29 (.tmp 5) #[.int .i64 s, .slice A1 l1.length c1, .slice A2 l2.length c2] _ (by kernel_rfl) hHeld (fun _ h_ => h_.1) hu29 rfl (by kernel_rfl) ?_
    refine ld_ 1 (some 30) (bt_ 4 3) b6 45 (.tmp 6) #[.int .i64 x.f0, .int .i64 0, .bool x.f2, .bool x.f3] _ (by kernel_rfl) hHeld (fun _ h_ => h_.2) hu45 rfl (by kernel_rfl) ?_
    clear hHeld
    refine one_ (i := 2) (N := none) (bt_ 4 7) rfl rfl (by kernel_rfl) (by decide) (fun K hK => ?_)
    refine st_ rfl 29 (.tmp 2) (.tmp 29) rfl w.heap.size #[.int .i64 s, .slice A1 l1.length c1, .slice A2 l2.length c2] rfl rfl 29 #[.int .i64 0, .slice none 0 0, .slice none 0 0] P2.out (by kernel_rfl) rfl (by simp [Value.oneCell']) ?_
    have NE_ : g ≠ w.heap.size := IsS87.ne_blk I.out P2.out (by decide)
    obtain ⟨W20, e_⟩ : ∃ X, X = W19.setRow w.heap.size #[.int .i64 s, .slice A1 l1.length c1, .slice A2 l2.length c2] := ⟨_, rfl⟩
    rw [← e_]
    have P3 := kbs P3 e_ (by have := ZZ.out; omega)
    have P5 := kbs P5 e_ (by have := ZZ.out; omega)
    have P6 := kbs P6 e_ (by have := ZZ.out; omega)
    have R1 := kws R1 e_ (by have := ZZ.out; omega)
    have R2 := kws R2 e_ (by have := ZZ.out; omega)
    have P2 := kps P2 e_
    have HB := khs HB e_ (by have := ZZ.out; omega)
    have I := kis I e_ NE_
    clear NE_
    have ZZ := Aside0.mk (And.intro ZZ.out (kzs e_))
    clear e_
    refine hK.out _ _ ⟨P5.out, P6.out⟩ (fun hHeld => ?_)
    clear hK K
    refine norm_ (a' := ?_) ?_ ?_
    rotate_left
    ·show Act.put _ none _ = _
     simp only [Act.put, List.setIfInBounds_toArray, List.set_cons_zero, List.set_cons_succ, i64_w, i32_w]
     rfl
    clear hHeld
    refine one_ (i := 3) (N := none) (bt_ 4 15) rfl rfl (by kernel_rfl) (by decide) (fun K hK => ?_)
    refine st_ rfl 45 (.tmp 3) (.tmp 30) rfl b3 #[.int .i64 x.f0, .int .i64 0, .bool x.f2, .bool x.f3] rfl rfl 45 #[.int .i64 0, .int .i64 0, .bool false, .bool false] P3.out (by kernel_rfl) rfl (by simp [Value.oneCell']) ?_
    have NE_ : g ≠ b3 := IsS87.ne_blk I.out P3.out (by decide)
    obtain ⟨W21, e_⟩ : ∃ X, X = W20.setRow b3 #[.int .i64 x.f0, .int .i64 0, .bool x.f2, .bool x.f3] := ⟨_, rfl⟩
    rw [← e_]
    have P2 := kbs P2 e_ (by have := ZZ.out; omega)
    have P5 := kbs P5 e_ (by have := ZZ.out; omega)
    have P6 := kbs P6 e_ (by have := ZZ.out; omega)
    have R1 := kws R1 e_ (by have := ZZ.out; omega)
    have R2 := kws R2 e_ (by have := ZZ.out; omega)
    have P3 := kps P3 e_
    have HB := khs HB e_ (by have := ZZ.out; omega)
    have I := kis I e_ NE_
    clear NE_
    have ZZ := Aside0.mk (And.intro ZZ.out (kzs e_))
    clear e_
    refine hK.out _ _ ⟨P5.out, P6.out⟩ (fun hHeld => ?_)
    clear hK K
    refine norm_ (a' := ?_) ?_ ?_
    rotate_left
    ·show Act.put _ none _ = _
     simp only [Act.put, List.setIfInBounds_toArray, List.set_cons_zero, List.set_cons_succ, i64_w, i32_w]
     rfl
    clear hHeld
    refine done_ (by kernel_rfl) ?_
    iterate 12 (try go_step)
    refine bodyPost_ret (results_cc rfl _ _ w.heap.size b3 29 45 #[.int .i64 s, .slice A1 l1.length c1, .slice A2 l2.length c2] #[.int .i64 x.f0, .int .i64 0, .bool x.f2, .bool x.f3] (0, 0) (0, 0) _ _ rfl P2.out hu29 rfl (by kernel_rfl) rfl P3.out hu45 rfl (by kernel_rfl)) rfl ?_
    exact ⟨s, l1, l2, .slice A1 l1.length c1, .slice A2 l2.length c2, ⟨x.f0, 0, x.f2, x.f3⟩, (show (0 : Int) ≤ 9999 by omega), rfl, Rw.own_ R1.out (fun k hk e => SEP.out k hk e.symm), Rw.own_ R2.out (fun k hk e => SEP.out k e.symm hk), HL.out, HB.out⟩
   ·have d2a : (t == 2) = false := beq_eq_false_iff_ne.mpr d2
    clear d2
    go_wp2_with (fail)
    have P2 := kbd P2
    have P3 := kbd P3
    have P5 := kbd P5
    have P6 := kbd P6
    have R1 := kwd R1
    have R2 := kwd R2
    have HB := khd HB
    have I := kid I
    have ZZ := Aside0.mk (And.intro ZZ.out (show W7.heap.size ≤ (W7.drew).heap.size from Nat.le_refl _))
    have HSS := (show (W7.drew).heap[b5]? = some (.cells #[.int .i64 s, .slice A1 l1.length c1, .slice A2 l2.length c2] 29 (0, 0)) ∧ (W7.drew).heap[b6]? = some (.cells #[.int .i64 x.f0, .int .i64 x.f1, .bool x.f2, .bool x.f3] 45 (0, 0)) from ⟨P5.out, P6.out⟩)
    refine start_ (n := 4) (S := fun w' => w'.heap[b5]? = some (.cells #[.int .i64 s, .slice A1 l1.length c1, .slice A2 l2.length c2] 29 (0, 0)) ∧ w'.heap[b6]? = some (.cells #[.int .i64 x.f0, .int .i64 x.f1, .bool x.f2, .bool x.f3] 45 (0, 0))) (ds := []) (bt_ 4 0) (by kernel_rfl) rfl rfl HSS (fun hHeld => ?_)
    clear HSS
    generalize W7.drew = W22 at P2 P3 P5 P6 R1 R2 HB I ZZ hHeld ⊢
    refine ld_ 0 (some 29) (bt_ 4 1) b5 29 (.tmp 5) #[.int .i64 s, .slice A1 l1.length c1, .slice A2 l2.length c2] _ (by kernel_rfl) hHeld (fun _ h_ => h_.1) hu29 rfl (by kernel_rfl) ?_
    refine ld_ 1 (some 30) (bt_ 4 3) b6 45 (.tmp 6) #[.int .i64 x.f0, .int .i64 x.f1, .bool x.f2, .bool x.f3] _ (by kernel_rfl) hHeld (fun _ h_ => h_.2) hu45 rfl (by kernel_rfl) ?_
    clear hHeld
    refine one_ (i := 2) (N := none) (bt_ 4 7) rfl rfl (by kernel_rfl) (by decide) (fun K hK => ?_)
    refine st_ rfl 29 (.tmp 2) (.tmp 29) rfl w.heap.size #[.int .i64 s, .slice A1 l1.length c1, .slice A2 l2.length c2] rfl rfl 29 #[.int .i64 0, .slice none 0 0, .slice none 0 0] P2.out (by kernel_rfl) rfl (by simp [Value.oneCell']) ?_
    have NE_ : g ≠ w.heap.size := IsS87.ne_blk I.out P2.out (by decide)
    obtain ⟨W23, e_⟩ : ∃ X, X = W22.setRow w.heap.size #[.int .i64 s, .slice A1 l1.length c1, .slice A2 l2.length c2] := ⟨_, rfl⟩
    rw [← e_]
    have P3 := kbs P3 e_ (by have := ZZ.out; omega)
    have P5 := kbs P5 e_ (by have := ZZ.out; omega)
    have P6 := kbs P6 e_ (by have := ZZ.out; omega)
    have R1 := kws R1 e_ (by have := ZZ.out; omega)
    have R2 := kws R2 e_ (by have := ZZ.out; omega)
    have P2 := kps P2 e_
    have HB := khs HB e_ (by have := ZZ.out; omega)
    have I := kis I e_ NE_
    clear NE_
    have ZZ := Aside0.mk (And.intro ZZ.out (kzs e_))
    clear e_
    refine hK.out _ _ ⟨P5.out, P6.out⟩ (fun hHeld => ?_)
    clear hK K
    refine norm_ (a' := ?_) ?_ ?_
    rotate_left
    ·show Act.put _ none _ = _
     simp only [Act.put, List.setIfInBounds_toArray, List.set_cons_zero, List.set_cons_succ, i64_w, i32_w]
     rfl
    clear hHeld
    refine one_ (i := 3) (N := none) (bt_ 4 15) rfl rfl (by kernel_rfl) (by decide) (fun K hK => ?_)
    refine st_ rfl 45 (.tmp 3) (.tmp 30) rfl b3 #[.int .i64 x.f0, .int .i64 x.f1, .bool x.f2, .bool x.f3] rfl rfl 45 #[.int .i64 0, .int .i64 0, .bool false, .bool false] P3.out (by kernel_rfl) rfl (by simp [Value.oneCell']) ?_
    have NE_ : g ≠ b3 := IsS87.ne_blk I.out P3.out (by decide)
    obtain ⟨W24, e_⟩ : ∃ X, X = W23.setRow b3 #[.int .i64 x.f0, .int .i64 x.f1, .bool x.f2, .bool x.f3] := ⟨_, rfl⟩
    rw [← e_]
    have P2 := kbs P2 e_ (by have := ZZ.out; omega)
    have P5 := kbs P5 e_ (by have := ZZ.out; omega)
    have P6 := kbs P6 e_ (by have := ZZ.out; omega)
    have R1 := kws R1 e_ (by have := ZZ.out; omega)
    have R2 := kws R2 e_ (by have := ZZ.out; omega)
    have P3 := kps P3 e_
    have HB := khs HB e_ (by have := ZZ.out; omega)
    have I := kis I e_ NE_
    clear NE_
    have ZZ := Aside0.mk (And.intro ZZ.out (kzs e_))
    clear e_
    refine hK.out _ _ ⟨P5.out, P6.out⟩ (fun hHeld => ?_)
    clear hK K
    refine norm_ (a' := ?_) ?_ ?_
    rotate_left
    ·show Act.put _ none _ = _
     simp only [Act.put, List.setIfInBounds_toArray, List.set_cons_zero, List.set_cons_succ, i64_w, i32_w]
     rfl
    clear hHeld
    refine done_ (by kernel_rfl) ?_
    iterate 12 (try go_step)
    refine bodyPost_ret (results_cc rfl _ _ w.heap.size b3 29 45 #[.int .i64 s, .slice A1 l1.length c1, .slice A2 l2.length c2] #[.int .i64 x.f0, .int .i64 x.f1, .bool x.f2, .bool x.f3] (0, 0) (0, 0) _ _ rfl P2.out hu29 rfl (by kernel_rfl) rfl P3.out hu45 rfl (by kernel_rfl)) rfl ?_
    exact ⟨s, l1, l2, .slice A1 l1.length c1, .slice A2 l2.length c2, x, HX9.out, rfl, Rw.own_ R1.out (fun k hk e => SEP.out k hk e.symm), Rw.own_ R2.out (fun k hk e => SEP.out k e.symm hk), HL.out, HB.out⟩
set_option maxHeartbeats 8000000 in
set_option maxRecDepth 100000 in
theorem drawFirm_calls (A0 : Option Addr) (c0 : Nat) (l0 : List Int) (w : World) (hr0 : Kd.C (Kd.int .u8) w A0 l0.length l0) (hc0 : l0.length ≤ c0) (hw : ∀ x ∈ l0, (Lit.int .u8 x).wf = true) :
 Calls Try.prog 36 #[.slice A0 l0.length c0] w (FirmPost w) := by
 have hu29 := Try.underlying29
 have hu45 := Try.underlying45
 have HR0 := Aside0.mk hr0
 have HC0 := Aside0.mk hc0
 obtain ⟨b, hop, hby⟩ := open_eq l0 hw
 have HOP := Aside0.mk hop
 have HBY := Aside0.mk hby
 clear hr0 hc0 hw hop hby
 have HB := Aside0.mk (below_alloc (Below.refl w.heap.size w) (.cells #[.int .i64 0, .slice none 0 0, .slice none 0 0] 29 (0, 0)))
 have P2 := Aside0.mk (blk_new w (.cells #[.int .i64 0, .slice none 0 0, .slice none 0 0] 29 (0, 0)))
 go_enter Try.func36, Try.ntmps36
 go_wp2_with (fail)
 generalize w.alloc (.cells #[.int .i64 0, .slice none 0 0, .slice none 0 0] 29 (0, 0)) = W1 at HB P2 ⊢
 have Z1 := Aside0.mk (blk_lt P2.out)
 have ZZ := Aside0.mk Z1.out
 refine (spec_l6Open.calls A0 c0 l0 b 0 w W1 HB.out HR0.out HC0.out HOP.out).mono ?_
 rintro e W2 ⟨g, rfl, hi, hb0, hb⟩
 clear hb0
 have ZZ := Aside0.mk (And.intro ZZ.out ((hb).size))
 have P2 := kb P2 (hb)
 have HB := kh HB (hb)
 clear hb
 have I := Aside0.mk hi
 clear hi
 have HQ : Aside0 ((0 : Int) ≤ 0) := ⟨by omega⟩
 go_wp2_with (fail)
 refine (drawLock_calls g b 0 w W2 I.out HB.out HBY.out (by omega)).mono ?_
 rintro e W3 ⟨s, l1, l2, v1, v2, q, rfl, q1, q2, hl, hi, hq, hb, hk⟩
 obtain ⟨A1, c1, e0⟩ := Kd.R_slice q1
 subst e0
 obtain ⟨A2, c2, e0⟩ := Kd.R_slice q2
 subst e0
 have SEP := Aside0.mk (show ∀ k, (Value.slice A1 l1.length c1).ownBlock = some k → (Value.slice A2 l2.length c2).ownBlock ≠ some k from fun k hk e => (q1.1 k hk) e.symm)
 have q1 := Rw.of q1 HB.out.size
 have q2 := Rw.of q2 HB.out.size
 have HL := Aside0.mk hl
 have HQ := Aside0.mk hq
 clear hl hq
 have ZZ := Aside0.mk (And.intro ZZ.out (hk.1))
 have P2 := kbI P2 I hk
 have HB := Aside0.mk hb
 have I := Aside0.mk hi
 clear hi hb hk
 have R1 := Aside0.mk q1
 have R2 := Aside0.mk q2
 clear q1 q2
 have hb := below_alloc (Below.refl W3.heap.size W3) (.cells #[.int .i64 s, .slice A1 l1.length c1, .slice A2 l2.length c2] 29 (0, 0))
 have ZZ := Aside0.mk (And.intro ZZ.out ((hb).size))
 have P2 := kb P2 (hb)
 have R1 := kw R1 (hb)
 have R2 := kw R2 (hb)
 have HB := kh HB (hb)
 have I := ki I (hb)
 clear hb
 have P6 := Aside0.mk (blk_new W3 (.cells #[.int .i64 s, .slice A1 l1.length c1, .slice A2 l2.length c2] 29 (0, 0)))
 have ZZ := Aside0.mk (And.intro ZZ.out (blk_lt P6.out))
 by_cases hl : 0 < l1.length
 ·have HLP := Aside0.mk hl
  have hl_ : decide (0 < l1.length) = true := decide_eq_true hl
  clear hl
  obtain ⟨ad, hA, _⟩ := at_T45 (R1.out.reads).2.2 0 (by omega) (by have := HLP.out; omega)
  subst hA
  have hb1 := (blk_cell P6.out 1).trans (show _ = some (.slice (some ad) l1.length c1) from rfl)
  go_wp2_with (fail)
  clear hl_ hb1
  generalize W3.alloc (.cells #[.int .i64 s, .slice (some ad) l1.length c1, .slice A2 l2.length c2] 29 (0, 0)) = W4 at ZZ P2 P6 R1 R2 HB I ⊢
  obtain ⟨b6, hq_⟩ : ∃ b6, b6 = W3.heap.size := ⟨_, rfl⟩
  rw [← hq_] at P6 ZZ ⊢
  have ZZ := Aside0.mk (And.intro ZZ.out (hq_))
  clear hq_
  refine (pickW g b _ 3 w W4 I.out HB.out HBY.out (by have := HQ.out; omega) (by have := HQ.out; omega) (by omega) (by omega)).mono ?_
  rintro e W5 ⟨t, ht0_, ht1_, rfl, hi, hb, hk⟩
  have Tt := Aside0.mk (And.intro ht0_ ht1_)
  clear ht0_ ht1_
  have ZZ := Aside0.mk (And.intro ZZ.out (hk.1))
  have P2 := kbI P2 I hk
  have P6 := kbI P6 I hk
  have R1 := kwI R1 I hk
  have R2 := kwI R2 I hk
  have HB := Aside0.mk hb
  have I := Aside0.mk hi
  clear hi hb hk
  by_cases ht : 0 < t
  ·have hd : decide (0 < t) = true := decide_eq_true ht
   clear ht
   have hb1 := (blk_cell P6.out 1).trans (show _ = some (.slice (some ad) l1.length c1) from rfl)
   go_wp2_with (fail)
   have P2 := kbd P2
   have P6 := kbd P6
   have R1 := kwd R1
   have R2 := kwd R2
   have HB := khd HB
   have I := kid I
   have ZZ := Aside0.mk (And.intro ZZ.out (show W5.heap.size ≤ (W5.drew).heap.size from Nat.le_refl _))
   have HSS := (show (W5.drew).cell? ⟨b6, 1, none⟩ = some (.slice (some ad) l1.length c1) ∧ Els (W5.drew) ad l1 from ⟨(blk_cell P6.out 1).trans rfl, els_of (R1.out.reads).2.2 rfl⟩)
   refine start_ (n := 11) (S := fun w' => w'.cell? ⟨b6, 1, none⟩ = some (.slice (some ad) l1.length c1) ∧ Els w' ad l1) (ds := []) (bt_ 11 0) (by kernel_rfl) rfl rfl HSS (fun hHeld => ?_)
   clear HSS hb1
   generalize W5.drew = W6 at P2 P6 R1 R2 HB I ZZ hHeld ⊢
   refine pu_ 0 (some 21) (bt_ 11 1) (by kernel_rfl) ?_
   refine tk_ 1 (some 22) (bt_ 11 3) (by kernel_rfl) hHeld ?_
   refine pu_ 2 (some 23) (bt_ 11 7) (by kernel_rfl) ?_
   refine pu_ 3 (some 24) (bt_ 11 15) (by kernel_rfl) ?_
   refine tk_ 4 (some 25) (bt_ 11 31) (by kernel_rfl) hHeld ?_
   refine pu_ 5 (some 26) (bt_ 11 63) (by kernel_rfl) ?_
   clear hHeld
   refine two_ (i := 6) (j := 9) (Ni := some 27) (Nj := some 7) (bt_ 11 127) (bt_ 11 575) rfl rfl rfl rfl (by kernel_rfl) (by decide) (by decide) (fun K hK => ?_) (fun K hK => ?_)
   ·refine goes_ Try.func67 (by kernel_rfl) rfl #[.pointer (some ⟨g, 0, none⟩), .int .i64 (l1.length : Int)] (by rfl) rfl rfl (by simp only [List.map_toArray, List.map_cons, List.map_nil]; rfl) ?_
    refine (pickW g b _ (l1.length : Int) w W6 I.out HB.out HBY.out (by have := HQ.out; omega) (by have := HQ.out; omega) (by have := HLP.out; omega) (by have := HL.out; omega)).mono ?_
    rintro e W7 ⟨ti, ht0_, ht1_, rfl, hi, hb, hk⟩
    refine ⟨_, rfl, ?_⟩
    have Tti := Aside0.mk (And.intro ht0_ ht1_)
    clear ht0_ ht1_
    have ZZ := Aside0.mk (And.intro ZZ.out (hk.1))
    have P2 := kbI P2 I hk
    have P6 := kbI P6 I hk
    have R1 := kwI R1 I hk
    have R2 := kwI R2 I hk
    have HB := Aside0.mk hb
    have I := Aside0.mk hi
    clear hi hb hk
    refine hK.out _ _ ⟨(blk_cell P6.out 1).trans rfl, els_of (R1.out.reads).2.2 rfl⟩ (fun hHeld => ?_)
    clear hK K
    refine norm_ (a' := ?_) ?_ ?_
    rotate_left
    ·show Act.put _ (some 27) _ = _
     simp only [Act.put, List.setIfInBounds_toArray, List.set_cons_zero, List.set_cons_succ, i64_w, i32_w]
     rfl
    have pi_ : (0 ≤ ti) = True := eq_true Tti.out.1
    have qi_ : (ti < (l1.length : Int)) = True := eq_true Tti.out.2
    refine pu_ 7 (some 28) (bt_ 11 255) (by kernel_rfl) ?_
    clear pi_ qi_
    refine tk_ 8 (some 29) (bt_ 11 511) (by kernel_rfl) hHeld ?_ (hr := by (intro w' h_; obtain ⟨y0, y1, y2, y3⟩ := h_.2 ti Tti.out.1 Tti.out.2; go_simp; with_reducible rfl))
    clear hHeld
    refine one_ (i := 9) (N := some 7) (bt_ 11 1023) rfl rfl (by kernel_rfl) (by decide) (fun K hK => ?_)
    refine event_step (v := .pointer (some ⟨W7.heap.size, 0, none⟩)) (w1 := W7.alloc (.cells #[.int .i64 0, .int .i64 0, .bool false, .bool false] 45 (0, 0))) rfl (by first | (go_simp; done) | (go_simp; rfl)) ?_
    have hb := below_alloc (Below.refl W7.heap.size W7) (.cells #[.int .i64 0, .int .i64 0, .bool false, .bool false] 45 (0, 0))
    have ZZ := Aside0.mk (And.intro ZZ.out ((hb).size))
    have P2 := kb P2 (hb)
    have P6 := kb P6 (hb)
    have R1 := kw R1 (hb)
    have R2 := kw R2 (hb)
    have HB := kh HB (hb)
    have I := ki I (hb)
    clear hb
    have P7 := Aside0.mk (blk_new W7 (.cells #[.int .i64 0, .int .i64 0, .bool false, .bool false] 45 (0, 0)))
    have ZZ := Aside0.mk (And.intro ZZ.out (blk_lt P7.out))
    generalize W7.alloc (.cells #[.int .i64 0, .int .i64 0, .bool false, .bool false] 45 (0, 0)) = W8 at ZZ P2 P6 P7 R1 R2 HB I ⊢
    obtain ⟨b7, hq_⟩ : ∃ b7, b7 = W7.heap.size := ⟨_, rfl⟩
    rw [← hq_] at P7 ZZ ⊢
    have ZZ := Aside0.mk (And.intro ZZ.out (hq_))
    clear hq_
    refine hK.out _ _ ⟨(blk_cell P6.out 1).trans rfl, els_of (R1.out.reads).2.2 rfl⟩ (fun hHeld => ?_)
    clear hK K
    refine norm_ (a' := ?_) ?_ ?_
    rotate_left
    ·show Act.put _ (some 7) _ = _
     simp only [Act.put, List.setIfInBounds_toArray, List.set_cons_zero, List.set_cons_succ, i64_w, i32_w]
     rfl
    clear hHeld
    refine one_ (i := 10) (N := none) (bt_ 11 2047) rfl rfl (by kernel_rfl) (by decide) (fun K hK => ?_)
    refine st_ rfl 45 (.tmp 7) (.tmp 29) rfl b7 #[.int .i64 (rd_T45 l1 ti).f0, .int .i64 (rd_T45 l1 ti).f1, .bool (rd_T45 l1 ti).f2, .bool (rd_T45 l1 ti).f3] rfl rfl 45 #[.int .i64 0, .int .i64 0, .bool false, .bool false] P7.out (by kernel_rfl) rfl (by simp [Value.oneCell']) ?_
    have NE_ : g ≠ b7 := IsS87.ne_blk I.out P7.out (by decide)
    obtain ⟨W9, e_⟩ : ∃ X, X = W8.setRow b7 #[.int .i64 (rd_T45 l1 ti).f0, .int .i64 (rd_T45 l1 ti).f1, .bool (rd_T45 l1 ti).f2, .bool (rd_T45 l1 ti).f3] := ⟨_, rfl⟩
    rw [← e_]
    have P2 := kbs P2 e_ (by have := ZZ.out; omega)
    have P6 := kbs P6 e_ (by have := ZZ.out; omega)
    have R1 := kws R1 e_ (by have := ZZ.out; omega)
    have R2 := kws R2 e_ (by have := ZZ.out; omega)
    have P7 := kps P7 e_
    have HB := khs HB e_ (by have := ZZ.out; omega)
    have I := kis I e_ NE_
    clear NE_
    have ZZ := Aside0.mk (And.intro ZZ.out (kzs e_))
    clear e_
    refine hK.out _ _ ⟨(blk_cell P6.out 1).trans rfl, els_of (R1.out.reads).2.2 rfl⟩ (fun hHeld => ?_)
    clear hK K
    refine norm_ (a' := ?_) ?_ ?_
    rotate_left
    ·show Act.put _ none _ = _
     simp only [Act.put, List.setIfInBounds_toArray, List.set_cons_zero, List.set_cons_succ, i64_w, i32_w]
     rfl
    clear hHeld
    refine done_ (by kernel_rfl) ?_
    go_wp2_with (fail)
    have P2 := kbd P2
    have P6 := kbd P6
    have P7 := kbd P7
    have R1 := kwd R1
    have R2 := kwd R2
    have HB := khd HB
    have I := kid I
    have ZZ := Aside0.mk (And.intro ZZ.out (show W9.heap.size ≤ (W9.drew).heap.size from Nat.le_refl _))
    have HSS := (show (W9.drew).heap[b6]? = some (.cells #[.int .i64 s, .slice (some ad) l1.length c1, .slice A2 l2.length c2] 29 (0, 0)) ∧ (W9.drew).cell? ⟨b7, 0, none⟩ = some (.int .i64 (rd_T45 l1 ti).f0) ∧ (W9.drew).cell? ⟨b7, 1, none⟩ = some (.int .i64 (rd_T45 l1 ti).f1) from ⟨P6.out, (blk_cell P7.out 0).trans rfl, (blk_cell P7.out 1).trans rfl⟩)
    refine start_ (n := 12) (S := fun w' => w'.heap[b6]? = some (.cells #[.int .i64 s, .slice (some ad) l1.length c1, .slice A2 l2.length c2] 29 (0, 0)) ∧ w'.cell? ⟨b7, 0, none⟩ = some (.int .i64 (rd_T45 l1 ti).f0) ∧ w'.cell? ⟨b7, 1, none⟩ = some (.int .i64 (rd_T45 l1 ti).f1)) (ds := []) (bt_ 12 0) (by kernel_rfl) rfl rfl HSS (fun hHeld => ?_)
    clear HSS
    generalize W9.drew = W10 at P2 P6 P7 R1 R2 HB I ZZ hHeld ⊢
    refine ld_ 0 (some 30) (bt_ 12 1) b6 29 (.tmp 6) #[.int .i64 s, .slice (some ad) l1.length c1, .slice A2 l2.length c2] _ (by kernel_rfl) hHeld (fun _ h_ => h_.1) hu29 rfl (by kernel_rfl) ?_
    refine pu_ 1 (some 31) (bt_ 12 3) (by kernel_rfl) ?_
    refine tk_ 2 (some 32) (bt_ 12 7) (by kernel_rfl) hHeld ?_
    refine pu_ 3 (some 33) (bt_ 12 15) (by kernel_rfl) ?_
    refine tk_ 4 (some 34) (bt_ 12 31) (by kernel_rfl) hHeld ?_
    refine pu_ 5 (some 35) (bt_ 12 63) (by kernel_rfl) ?_
    clear hHeld
    refine one_ (i := 6) (N := some 36) (bt_ 12 127) rfl rfl (by kernel_rfl) (by decide) (fun K hK => ?_)
    refine goes_ Try.func67 (by kernel_rfl) rfl #[.pointer (some ⟨g, 0, none⟩), .int .i64 4] (by rfl) rfl rfl (by simp only [List.map_toArray, List.map_cons, List.map_nil]; rfl) ?_
    refine (pickW g b _ 4 w W10 I.out HB.out HBY.out (by have := HQ.out; omega) (by have := HQ.out; omega) (by omega) (by omega)).mono ?_
    rintro e W11 ⟨tq, ht0_, ht1_, rfl, hi, hb, hk⟩
    refine ⟨_, rfl, ?_⟩
    have Ttq := Aside0.mk (And.intro ht0_ ht1_)
    clear ht0_ ht1_
    have ZZ := Aside0.mk (And.intro ZZ.out (hk.1))
    have P2 := kbI P2 I hk
    have P6 := kbI P6 I hk
    have P7 := kbI P7 I hk
    have R1 := kwI R1 I hk
    have R2 := kwI R2 I hk
    have HB := Aside0.mk hb
    have I := Aside0.mk hi
    clear hi hb hk
    refine hK.out _ _ ⟨P6.out, (blk_cell P7.out 0).trans rfl, (blk_cell P7.out 1).trans rfl⟩ (fun hHeld => ?_)
    clear hK K
    refine norm_ (a' := ?_) ?_ ?_
    rotate_left
    ·show Act.put _ (some 36) _ = _
     simp only [Act.put, List.setIfInBounds_toArray, List.set_cons_zero, List.set_cons_succ, i64_w, i32_w]
     rfl
    clear hHeld
    refine pu_ 7 (some 37) (bt_ 12 255) (by kernel_rfl) ?_
    refine pu_ 8 (some 38) (bt_ 12 511) (by kernel_rfl) ?_
    refine one_ (i := 9) (N := none) (bt_ 12 1023) rfl rfl (by kernel_rfl) (by decide) (fun K hK => ?_)
    refine st_ rfl 29 (.tmp 2) (.tmp 30) rfl w.heap.size #[.int .i64 s, .slice (some ad) l1.length c1, .slice A2 l2.length c2] rfl rfl 29 #[.int .i64 0, .slice none 0 0, .slice none 0 0] P2.out (by kernel_rfl) rfl (by simp [Value.oneCell']) ?_
    have NE_ : g ≠ w.heap.size := IsS87.ne_blk I.out P2.out (by decide)
    obtain ⟨W12, e_⟩ : ∃ X, X = W11.setRow w.heap.size #[.int .i64 s, .slice (some ad) l1.length c1, .slice A2 l2.length c2] := ⟨_, rfl⟩
    rw [← e_]
    have P6 := kbs P6 e_ (by have := ZZ.out; omega)
    have P7 := kbs P7 e_ (by have := ZZ.out; omega)
    have R1 := kws R1 e_ (by have := ZZ.out; omega)
    have R2 := kws R2 e_ (by have := ZZ.out; omega)
    have P2 := kps P2 e_
    have HB := khs HB e_ (by have := ZZ.out; omega)
    have I := kis I e_ NE_
    clear NE_
    have ZZ := Aside0.mk (And.intro ZZ.out (kzs e_))
    clear e_
    refine hK.out _ _ ⟨P6.out, (blk_cell P7.out 0).trans rfl, (blk_cell P7.out 1).trans rfl⟩ (fun hHeld => ?_)
    clear hK K
    refine norm_ (a' := ?_) ?_ ?_
    rotate_left
    ·show Act.put _ none _ = _
     simp only [Act.put, List.setIfInBounds_toArray, List.set_cons_zero, List.set_cons_succ, i64_w, i32_w]
     rfl
    clear hHeld
    refine pu_ 10 (some 3) (bt_ 12 2047) (by kernel_rfl) ?_
    refine pu_ 11 (some 4) (bt_ 12 4095) (by kernel_rfl) ?_
    refine done_ (by kernel_rfl) ?_
    iterate 12 (try go_step)
    refine bodyPost_ret (results_ctt rfl _ _ w.heap.size 29 #[.int .i64 s, .slice (some ad) l1.length c1, .slice A2 l2.length c2] (0, 0) _ rfl P2.out hu29 rfl (by kernel_rfl)) rfl ?_
    exact ⟨s, l1, l2, _, _, _, _, rfl, Rw.own_ R1.out (fun k hk e => SEP.out k hk e.symm), Rw.own_ R2.out (fun k hk e => SEP.out k e.symm hk), HL.out, HB.out⟩
   ·refine event_step (v := .pointer (some ⟨W6.heap.size, 0, none⟩)) (w1 := W6.alloc (.cells #[.int .i64 0, .int .i64 0, .bool false, .bool false] 45 (0, 0))) rfl (by first | (go_simp; done) | (go_simp; rfl)) ?_
    have hb := below_alloc (Below.refl W6.heap.size W6) (.cells #[.int .i64 0, .int .i64 0, .bool false, .bool false] 45 (0, 0))
    have ZZ := Aside0.mk (And.intro ZZ.out ((hb).size))
    have P2 := kb P2 (hb)
    have P6 := kb P6 (hb)
    have R1 := kw R1 (hb)
    have R2 := kw R2 (hb)
    have HB := kh HB (hb)
    have I := ki I (hb)
    clear hb
    have P7 := Aside0.mk (blk_new W6 (.cells #[.int .i64 0, .int .i64 0, .bool false, .bool false] 45 (0, 0)))
    have ZZ := Aside0.mk (And.intro ZZ.out (blk_lt P7.out))
    generalize W6.alloc (.cells #[.int .i64 0, .int .i64 0, .bool false, .bool false] 45 (0, 0)) = W13 at ZZ P2 P6 P7 R1 R2 HB I ⊢
    obtain ⟨b7, hq_⟩ : ∃ b7, b7 = W6.heap.size := ⟨_, rfl⟩
    rw [← hq_] at P7 ZZ ⊢
    have ZZ := Aside0.mk (And.intro ZZ.out (hq_))
    clear hq_
    refine hK.out _ _ ⟨(blk_cell P6.out 1).trans rfl, els_of (R1.out.reads).2.2 rfl⟩ (fun hHeld => ?_)
    clear hK K
    refine norm_ (a' := ?_) ?_ ?_
    rotate_left
    ·show Act.put _ (some 7) _ = _
     simp only [Act.put, List.setIfInBounds_toArray, List.set_cons_zero, List.set_cons_succ, i64_w, i32_w]
     rfl
    clear hHeld
    refine one_ (i := 6) (N := some 27) (bt_ 11 639) rfl rfl (by kernel_rfl) (by decide) (fun K hK => ?_)
    refine goes_ Try.func67 (by kernel_rfl) rfl #[.pointer (some ⟨g, 0, none⟩), .int .i64 (l1.length : Int)] (by rfl) rfl rfl (by simp only [List.map_toArray, List.map_cons, List.map_nil]; rfl) ?_
    refine (pickW g b _ (l1.length : Int) w W13 I.out HB.out HBY.out (by have := HQ.out; omega) (by have := HQ.out; omega) (by have := HLP.out; omega) (by have := HL.out; omega)).mono ?_
    rintro e W14 ⟨ti, ht0_, ht1_, rfl, hi, hb, hk⟩
    refine ⟨_, rfl, ?_⟩
    have Tti := Aside0.mk (And.intro ht0_ ht1_)
    clear ht0_ ht1_
    have ZZ := Aside0.mk (And.intro ZZ.out (hk.1))
    have P2 := kbI P2 I hk
    have P6 := kbI P6 I hk
    have P7 := kbI P7 I hk
    have R1 := kwI R1 I hk
    have R2 := kwI R2 I hk
    have HB := Aside0.mk hb
    have I := Aside0.mk hi
    clear hi hb hk
    refine hK.out _ _ ⟨(blk_cell P6.out 1).trans rfl, els_of (R1.out.reads).2.2 rfl⟩ (fun hHeld => ?_)
    clear hK K
    refine norm_ (a' := ?_) ?_ ?_
    rotate_left
    ·show Act.put _ (some 27) _ = _
     simp only [Act.put, List.setIfInBounds_toArray, List.set_cons_zero, List.set_cons_succ, i64_w, i32_w]
     rfl
    have pi_ : (0 ≤ ti) = True := eq_true Tti.out.1
    have qi_ : (ti < (l1.length : Int)) = True := eq_true Tti.out.2
    refine pu_ 7 (some 28) (bt_ 11 767) (by kernel_rfl) ?_
    clear pi_ qi_
    refine tk_ 8 (some 29) (bt_ 11 1023) (by kernel_rfl) hHeld ?_ (hr := by (intro w' h_; obtain ⟨y0, y1, y2, y3⟩ := h_.2 ti Tti.out.1 Tti.out.2; go_simp; with_reducible rfl))
    clear hHeld
    refine one_ (i := 10) (N := none) (bt_ 11 2047) rfl rfl (by kernel_rfl) (by decide) (fun K hK => ?_)
    refine st_ rfl 45 (.tmp 7) (.tmp 29) rfl b7 #[.int .i64 (rd_T45 l1 ti).f0, .int .i64 (rd_T45 l1 ti).f1, .bool (rd_T45 l1 ti).f2, .bool (rd_T45 l1 ti).f3] rfl rfl 45 #[.int .i64 0, .int .i64 0, .bool false, .bool false] P7.out (by kernel_rfl) rfl (by simp [Value.oneCell']) ?_
    have NE_ : g ≠ b7 := IsS87.ne_blk I.out P7.out (by decide)
    obtain ⟨W15, e_⟩ : ∃ X, X = W14.setRow b7 #[.int .i64 (rd_T45 l1 ti).f0, .int .i64 (rd_T45 l1 ti).f1, .bool (rd_T45 l1 ti).f2, .bool (rd_T45 l1 ti).f3] := ⟨_, rfl⟩
    rw [← e_]
    have P2 := kbs P2 e_ (by have := ZZ.out; omega)
    have P6 := kbs P6 e_ (by have := ZZ.out; omega)
    have R1 := kws R1 e_ (by have := ZZ.out; omega)
    have R2 := kws R2 e_ (by have := ZZ.out; omega)
    have P7 := kps P7 e_
    have HB := khs HB e_ (by have := ZZ.out; omega)
    have I := kis I e_ NE_
    clear NE_
    have ZZ := Aside0.mk (And.intro ZZ.out (kzs e_))
    clear e_
    refine hK.out _ _ ⟨(blk_cell P6.out 1).trans rfl, els_of (R1.out.reads).2.2 rfl⟩ (fun hHeld => ?_)
    clear hK K
    refine norm_ (a' := ?_) ?_ ?_
    rotate_left
    ·show Act.put _ none _ = _
     simp only [Act.put, List.setIfInBounds_toArray, List.set_cons_zero, List.set_cons_succ, i64_w, i32_w]
     rfl
    clear hHeld
    refine done_ (by kernel_rfl) ?_
    go_wp2_with (fail)
    have P2 := kbd P2
    have P6 := kbd P6
    have P7 := kbd P7
    have R1 := kwd R1
    have R2 := kwd R2
    have HB := khd HB
    have I := kid I
    have ZZ := Aside0.mk (And.intro ZZ.out (show W15.heap.size ≤ (W15.drew).heap.size from Nat.le_refl _))
    have HSS := (show (W15.drew).heap[b6]? = some (.cells #[.int .i64 s, .slice (some ad) l1.length c1, .slice A2 l2.length c2] 29 (0, 0)) ∧ (W15.drew).cell? ⟨b7, 0, none⟩ = some (.int .i64 (rd_T45 l1 ti).f0) ∧ (W15.drew).cell? ⟨b7, 1, none⟩ = some (.int .i64 (rd_T45 l1 ti).f1) from ⟨P6.out, (blk_cell P7.out 0).trans rfl, (blk_cell P7.out 1).trans rfl⟩)
    refine start_ (n := 12) (S := fun w' => w'.heap[b6]? = some (.cells #[.int .i64 s, .slice (some ad) l1.length c1, .slice A2 l2.length c2] 29 (0, 0)) ∧ w'.cell? ⟨b7, 0, none⟩ = some (.int .i64 (rd_T45 l1 ti).f0) ∧ w'.cell? ⟨b7, 1, none⟩ = some (.int .i64 (rd_T45 l1 ti).f1)) (ds := []) (bt_ 12 0) (by kernel_rfl) rfl rfl HSS (fun hHeld => ?_)
    clear HSS
    generalize W15.drew = W16 at P2 P6 P7 R1 R2 HB I ZZ hHeld ⊢
    refine ld_ 0 (some 30) (bt_ 12 1) b6 29 (.tmp 6) #[.int .i64 s, .slice (some ad) l1.length c1, .slice A2 l2.length c2] _ (by kernel_rfl) hHeld (fun _ h_ => h_.1) hu29 rfl (by kernel_rfl) ?_
    refine pu_ 1 (some 31) (bt_ 12 3) (by kernel_rfl) ?_
    refine tk_ 2 (some 32) (bt_ 12 7) (by kernel_rfl) hHeld ?_
    refine pu_ 3 (some 33) (bt_ 12 15) (by kernel_rfl) ?_
    refine tk_ 4 (some 34) (bt_ 12 31) (by kernel_rfl) hHeld ?_
    refine pu_ 5 (some 35) (bt_ 12 63) (by kernel_rfl) ?_
    clear hHeld
    refine one_ (i := 6) (N := some 36) (bt_ 12 127) rfl rfl (by kernel_rfl) (by decide) (fun K hK => ?_)
    refine goes_ Try.func67 (by kernel_rfl) rfl #[.pointer (some ⟨g, 0, none⟩), .int .i64 4] (by rfl) rfl rfl (by simp only [List.map_toArray, List.map_cons, List.map_nil]; rfl) ?_
    refine (pickW g b _ 4 w W16 I.out HB.out HBY.out (by have := HQ.out; omega) (by have := HQ.out; omega) (by omega) (by omega)).mono ?_
    rintro e W17 ⟨tq, ht0_, ht1_, rfl, hi, hb, hk⟩
    refine ⟨_, rfl, ?_⟩
    have Ttq := Aside0.mk (And.intro ht0_ ht1_)
    clear ht0_ ht1_
    have ZZ := Aside0.mk (And.intro ZZ.out (hk.1))
    have P2 := kbI P2 I hk
    have P6 := kbI P6 I hk
    have P7 := kbI P7 I hk
    have R1 := kwI R1 I hk
    have R2 := kwI R2 I hk
    have HB := Aside0.mk hb
    have I := Aside0.mk hi
    clear hi hb hk
    refine hK.out _ _ ⟨P6.out, (blk_cell P7.out 0).trans rfl, (blk_cell P7.out 1).trans rfl⟩ (fun hHeld => ?_)
    clear hK K
    refine norm_ (a' := ?_) ?_ ?_
    rotate_left
    ·show Act.put _ (some 36) _ = _
     simp only [Act.put, List.setIfInBounds_toArray, List.set_cons_zero, List.set_cons_succ, i64_w, i32_w]
     rfl
    clear hHeld
    refine pu_ 7 (some 37) (bt_ 12 255) (by kernel_rfl) ?_
    refine pu_ 8 (some 38) (bt_ 12 511) (by kernel_rfl) ?_
    refine one_ (i := 9) (N := none) (bt_ 12 1023) rfl rfl (by kernel_rfl) (by decide) (fun K hK => ?_)
    refine st_ rfl 29 (.tmp 2) (.tmp 30) rfl w.heap.size #[.int .i64 s, .slice (some ad) l1.length c1, .slice A2 l2.length c2] rfl rfl 29 #[.int .i64 0, .slice none 0 0, .slice none 0 0] P2.out (by kernel_rfl) rfl (by simp [Value.oneCell']) ?_
    have NE_ : g ≠ w.heap.size := IsS87.ne_blk I.out P2.out (by decide)
    obtain ⟨W18, e_⟩ : ∃ X, X = W17.setRow w.heap.size #[.int .i64 s, .slice (some ad) l1.length c1, .slice A2 l2.length c2] := ⟨_, rfl⟩
    rw [← e_]
    have P6 := kbs P6 e_ (by have := ZZ.out; omega)
    have P7 := kbs P7 e_ (by have := ZZ.out; omega)
    have R1 := kws R1 e_ (by have := ZZ.out; omega)
    have R2 := kws R2 e_ (by have := ZZ.out; omega)
    have P2 := kps P2 e_
    have HB := khs HB e_ (by have := ZZ.out; omega)
    have I := kis I e_ NE_
    clear NE_
    have ZZ := Aside0.mk (And.intro ZZ.out (kzs e_))
    clear e_
    refine hK.out _ _ ⟨P6.out, (blk_cell P7.out 0).trans rfl, (blk_cell P7.out 1).trans rfl⟩ (fun hHeld => ?_)
    clear hK K
    refine norm_ (a' := ?_) ?_ ?_
    rotate_left
    ·show Act.put _ none _ = _
     simp only [Act.put, List.setIfInBounds_toArray, List.set_cons_zero, List.set_cons_succ, i64_w, i32_w]
     rfl
    clear hHeld
    refine pu_ 10 (some 3) (bt_ 12 2047) (by kernel_rfl) ?_
    refine pu_ 11 (some 4) (bt_ 12 4095) (by kernel_rfl) ?_
    refine done_ (by kernel_rfl) ?_
    iterate 12 (try go_step)
    refine bodyPost_ret (results_ctt rfl _ _ w.heap.size 29 #[.int .i64 s, .slice (some ad) l1.length c1, .slice A2 l2.length c2] (0, 0) _ rfl P2.out hu29 rfl (by kernel_rfl)) rfl ?_
    exact ⟨s, l1, l2, _, _, _, _, rfl, Rw.own_ R1.out (fun k hk e => SEP.out k hk e.symm), Rw.own_ R2.out (fun k hk e => SEP.out k e.symm hk), HL.out, HB.out⟩
  ·have hd : decide (0 < t) = false := decide_eq_false ht
   clear ht
   go_wp2_with (fail)
   have P2 := kbd P2
   have P6 := kbd P6
   have R1 := kwd R1
   have R2 := kwd R2
   have HB := khd HB
   have I := kid I
   have ZZ := Aside0.mk (And.intro ZZ.out (show W5.heap.size ≤ (W5.drew).heap.size from Nat.le_refl _))
   have HSS := (show (W5.drew).heap[b6]? = some (.cells #[.int .i64 s, .slice (some ad) l1.length c1, .slice A2 l2.length c2] 29 (0, 0)) from P6.out)
   refine start_ (n := 10) (S := fun w' => w'.heap[b6]? = some (.cells #[.int .i64 s, .slice (some ad) l1.length c1, .slice A2 l2.length c2] 29 (0, 0))) (ds := []) (bt_ 10 0) (by kernel_rfl) rfl rfl HSS (fun hHeld => ?_)
   clear HSS
   generalize W5.drew = W19 at P2 P6 R1 R2 HB I ZZ hHeld ⊢
   refine ld_ 0 (some 39) (bt_ 10 1) b6 29 (.tmp 6) #[.int .i64 s, .slice (some ad) l1.length c1, .slice A2 l2.length c2] _ (by kernel_rfl) hHeld (fun _ h_ => h_) hu29 rfl (by kernel_rfl) ?_
   clear hHeld
   refine pu_ 1 (some 40) (bt_ 10 3) (by kernel_rfl) ?_
   refine pu_ 4 (some 43) (bt_ 10 19) (by kernel_rfl) ?_
   refine one_ (i := 2) (N := some 41) (bt_ 10 23) rfl rfl (by kernel_rfl) (by decide) (fun K hK => ?_)
   refine goes_ Try.func67 (by kernel_rfl) rfl #[.pointer (some ⟨g, 0, none⟩), .int .i64 7] (by rfl) rfl rfl (by simp only [List.map_toArray, List.map_cons, List.map_nil]; rfl) ?_
   refine (pickW g b _ 7 w W19 I.out HB.out HBY.out (by have := HQ.out; omega) (by have := HQ.out; omega) (by omega) (by omega)).mono ?_
   rintro e W20 ⟨ta, ht0_, ht1_, rfl, hi, hb, hk⟩
   refine ⟨_, rfl, ?_⟩
   have Tta := Aside0.mk (And.intro ht0_ ht1_)
   clear ht0_ ht1_
   have ZZ := Aside0.mk (And.intro ZZ.out (hk.1))
   have P2 := kbI P2 I hk
   have P6 := kbI P6 I hk
   have R1 := kwI R1 I hk
   have R2 := kwI R2 I hk
   have HB := Aside0.mk hb
   have I := Aside0.mk hi
   clear hi hb hk
   refine hK.out _ _ P6.out (fun hHeld => ?_)
   clear hK K
   refine norm_ (a' := ?_) ?_ ?_
   rotate_left
   ·show Act.put _ (some 41) _ = _
    simp only [Act.put, List.setIfInBounds_toArray, List.set_cons_zero, List.set_cons_succ, i64_w, i32_w]
    rfl
   clear hHeld
   refine pu_ 3 (some 42) (bt_ 10 31) (by kernel_rfl) ?_
   refine one_ (i := 5) (N := some 44) (bt_ 10 63) rfl rfl (by kernel_rfl) (by decide) (fun K hK => ?_)
   refine goes_ Try.func67 (by kernel_rfl) rfl #[.pointer (some ⟨g, 0, none⟩), .int .i64 3] (by rfl) rfl rfl (by simp only [List.map_toArray, List.map_cons, List.map_nil]; rfl) ?_
   refine (pickW g b _ 3 w W20 I.out HB.out HBY.out (by have := HQ.out; omega) (by have := HQ.out; omega) (by omega) (by omega)).mono ?_
   rintro e W21 ⟨tb, ht0_, ht1_, rfl, hi, hb, hk⟩
   refine ⟨_, rfl, ?_⟩
   have Ttb := Aside0.mk (And.intro ht0_ ht1_)
   clear ht0_ ht1_
   have ZZ := Aside0.mk (And.intro ZZ.out (hk.1))
   have P2 := kbI P2 I hk
   have P6 := kbI P6 I hk
   have R1 := kwI R1 I hk
   have R2 := kwI R2 I hk
   have HB := Aside0.mk hb
   have I := Aside0.mk hi
   clear hi hb hk
   refine hK.out _ _ P6.out (fun hHeld => ?_)
   clear hK K
   refine norm_ (a' := ?_) ?_ ?_
   rotate_left
   ·show Act.put _ (some 44) _ = _
    simp only [Act.put, List.setIfInBounds_toArray, List.set_cons_zero, List.set_cons_succ, i64_w, i32_w]
    rfl
   clear hHeld
   refine pu_ 6 (some 45) (bt_ 10 127) (by kernel_rfl) ?_
   refine one_ (i := 7) (N := none) (bt_ 10 255) rfl rfl (by kernel_rfl) (by decide) (fun K hK => ?_)
   refine st_ rfl 29 (.tmp 2) (.tmp 39) rfl w.heap.size #[.int .i64 s, .slice (some ad) l1.length c1, .slice A2 l2.length c2] rfl rfl 29 #[.int .i64 0, .slice none 0 0, .slice none 0 0] P2.out (by kernel_rfl) rfl (by simp [Value.oneCell']) ?_
   have NE_ : g ≠ w.heap.size := IsS87.ne_blk I.out P2.out (by decide)
   obtain ⟨W22, e_⟩ : ∃ X, X = W21.setRow w.heap.size #[.int .i64 s, .slice (some ad) l1.length c1, .slice A2 l2.length c2] := ⟨_, rfl⟩
   rw [← e_]
   have P6 := kbs P6 e_ (by have := ZZ.out; omega)
   have R1 := kws R1 e_ (by have := ZZ.out; omega)
   have R2 := kws R2 e_ (by have := ZZ.out; omega)
   have P2 := kps P2 e_
   have HB := khs HB e_ (by have := ZZ.out; omega)
   have I := kis I e_ NE_
   clear NE_
   have ZZ := Aside0.mk (And.intro ZZ.out (kzs e_))
   clear e_
   refine hK.out _ _ P6.out (fun hHeld => ?_)
   clear hK K
   refine norm_ (a' := ?_) ?_ ?_
   rotate_left
   ·show Act.put _ none _ = _
    simp only [Act.put, List.setIfInBounds_toArray, List.set_cons_zero, List.set_cons_succ, i64_w, i32_w]
    rfl
   clear hHeld
   refine pu_ 8 (some 3) (bt_ 10 511) (by kernel_rfl) ?_
   refine pu_ 9 (some 4) (bt_ 10 1023) (by kernel_rfl) ?_
   refine done_ (by kernel_rfl) ?_
   iterate 12 (try go_step)
   refine bodyPost_ret (results_ctt rfl _ _ w.heap.size 29 #[.int .i64 s, .slice (some ad) l1.length c1, .slice A2 l2.length c2] (0, 0) _ rfl P2.out hu29 rfl (by kernel_rfl)) rfl ?_
   exact ⟨s, l1, l2, _, _, _, _, rfl, Rw.own_ R1.out (fun k hk e => SEP.out k hk e.symm), Rw.own_ R2.out (fun k hk e => SEP.out k e.symm hk), HL.out, HB.out⟩
 ·have hl_ : decide (0 < l1.length) = false := decide_eq_false hl
  clear hl
  have hb1 := (blk_cell P6.out 1).trans (show _ = some (.slice A1 l1.length c1) from rfl)
  go_wp2_with (fail)
  clear hl_ hb1
  generalize W3.alloc (.cells #[.int .i64 s, .slice A1 l1.length c1, .slice A2 l2.length c2] 29 (0, 0)) = W23 at ZZ P2 P6 R1 R2 HB I ⊢
  obtain ⟨b6, hq_⟩ : ∃ b6, b6 = W3.heap.size := ⟨_, rfl⟩
  rw [← hq_] at P6 ZZ ⊢
  have ZZ := Aside0.mk (And.intro ZZ.out (hq_))
  clear hq_
  have P2 := kbd P2
  have P6 := kbd P6
  have R1 := kwd R1
  have R2 := kwd R2
  have HB := khd HB
  have I := kid I
  have ZZ := Aside0.mk (And.intro ZZ.out (show W23.heap.size ≤ (W23.drew).heap.size from Nat.le_refl _))
  have HSS := (show (W23.drew).heap[b6]? = some (.cells #[.int .i64 s, .slice A1 l1.length c1, .slice A2 l2.length c2] 29 (0, 0)) from P6.out)
  refine start_ (n := 10) (S := fun w' => w'.heap[b6]? = some (.cells #[.int .i64 s, .slice A1 l1.length c1, .slice A2 l2.length c2] 29 (0, 0))) (ds := []) (bt_ 10 0) (by kernel_rfl) rfl rfl HSS (fun hHeld => ?_)
  clear HSS
  generalize W23.drew = W24 at P2 P6 R1 R2 HB I ZZ hHeld ⊢
  refine ld_ 0 (some 39) (bt_ 10 1) b6 29 (.tmp 6) #[.int .i64 s, .slice A1 l1.length c1, .slice A2 l2.length c2] _ (by kernel_rfl) hHeld (fun _ h_ => h_) hu29 rfl (by kernel_rfl) ?_
  clear hHeld
  refine pu_ 1 (some 40) (bt_ 10 3) (by kernel_rfl) ?_
  refine pu_ 4 (some 43) (bt_ 10 19) (by kernel_rfl) ?_
  refine one_ (i := 2) (N := some 41) (bt_ 10 23) rfl rfl (by kernel_rfl) (by decide) (fun K hK => ?_)
  refine goes_ Try.func67 (by kernel_rfl) rfl #[.pointer (some ⟨g, 0, none⟩), .int .i64 7] (by rfl) rfl rfl (by simp only [List.map_toArray, List.map_cons, List.map_nil]; rfl) ?_
  refine (pickW g b _ 7 w W24 I.out HB.out HBY.out (by have := HQ.out; omega) (by have := HQ.out; omega) (by omega) (by omega)).mono ?_
  rintro e W25 ⟨ta, ht0_, ht1_, rfl, hi, hb, hk⟩
  refine ⟨_, rfl, ?_⟩
  have Tta := Aside0.mk (And.intro ht0_ ht1_)
  clear ht0_ ht1_
  have ZZ := Aside0.mk (And.intro ZZ.out (hk.1))
  have P2 := kbI P2 I hk
  have P6 := kbI P6 I hk
  have R1 := kwI R1 I hk
  have R2 := kwI R2 I hk
  have HB := Aside0.mk hb
  have I := Aside0.mk hi
  clear hi hb hk
  refine hK.out _ _ P6.out (fun hHeld => ?_)
  clear hK K
  refine norm_ (a' := ?_) ?_ ?_
  rotate_left
  ·show Act.put _ (some 41) _ = _
   simp only [Act.put, List.setIfInBounds_toArray, List.set_cons_zero, List.set_cons_succ, i64_w, i32_w]
   rfl
  clear hHeld
  refine pu_ 3 (some 42) (bt_ 10 31) (by kernel_rfl) ?_
  refine one_ (i := 5) (N := some 44) (bt_ 10 63) rfl rfl (by kernel_rfl) (by decide) (fun K hK => ?_)
  refine goes_ Try.func67 (by kernel_rfl) rfl #[.pointer (some ⟨g, 0, none⟩), .int .i64 3] (by rfl) rfl rfl (by simp only [List.map_toArray, List.map_cons, List.map_nil]; rfl) ?_
  refine (pickW g b _ 3 w W25 I.out HB.out HBY.out (by have := HQ.out; omega) (by have := HQ.out; omega) (by omega) (by omega)).mono ?_
  rintro e W26 ⟨tb, ht0_, ht1_, rfl, hi, hb, hk⟩
  refine ⟨_, rfl, ?_⟩
  have Ttb := Aside0.mk (And.intro ht0_ ht1_)
  clear ht0_ ht1_
  have ZZ := Aside0.mk (And.intro ZZ.out (hk.1))
  have P2 := kbI P2 I hk
  have P6 := kbI P6 I hk
  have R1 := kwI R1 I hk
  have R2 := kwI R2 I hk
  have HB := Aside0.mk hb
  have I := Aside0.mk hi
  clear hi hb hk
  refine hK.out _ _ P6.out (fun hHeld => ?_)
  clear hK K
  refine norm_ (a' := ?_) ?_ ?_
  rotate_left
  ·show Act.put _ (some 44) _ = _
   simp only [Act.put, List.setIfInBounds_toArray, List.set_cons_zero, List.set_cons_succ, i64_w, i32_w]
   rfl
  clear hHeld
  refine pu_ 6 (some 45) (bt_ 10 127) (by kernel_rfl) ?_
  refine one_ (i := 7) (N := none) (bt_ 10 255) rfl rfl (by kernel_rfl) (by decide) (fun K hK => ?_)
  refine st_ rfl 29 (.tmp 2) (.tmp 39) rfl w.heap.size #[.int .i64 s, .slice A1 l1.length c1, .slice A2 l2.length c2] rfl rfl 29 #[.int .i64 0, .slice none 0 0, .slice none 0 0] P2.out (by kernel_rfl) rfl (by simp [Value.oneCell']) ?_
  have NE_ : g ≠ w.heap.size := IsS87.ne_blk I.out P2.out (by decide)
  obtain ⟨W27, e_⟩ : ∃ X, X = W26.setRow w.heap.size #[.int .i64 s, .slice A1 l1.length c1, .slice A2 l2.length c2] := ⟨_, rfl⟩
  rw [← e_]
  have P6 := kbs P6 e_ (by have := ZZ.out; omega)
  have R1 := kws R1 e_ (by have := ZZ.out; omega)
  have R2 := kws R2 e_ (by have := ZZ.out; omega)
  have P2 := kps P2 e_
  have HB := khs HB e_ (by have := ZZ.out; omega)
  have I := kis I e_ NE_
  clear NE_
  have ZZ := Aside0.mk (And.intro ZZ.out (kzs e_))
  clear e_
  refine hK.out _ _ P6.out (fun hHeld => ?_)
  clear hK K
  refine norm_ (a' := ?_) ?_ ?_
  rotate_left
  ·show Act.put _ none _ = _
   simp only [Act.put, List.setIfInBounds_toArray, List.set_cons_zero, List.set_cons_succ, i64_w, i32_w]
   rfl
  clear hHeld
  refine pu_ 8 (some 3) (bt_ 10 511) (by kernel_rfl) ?_
  refine pu_ 9 (some 4) (bt_ 10 1023) (by kernel_rfl) ?_
  refine done_ (by kernel_rfl) ?_
  iterate 12 (try go_step)
  refine bodyPost_ret (results_ctt rfl _ _ w.heap.size 29 #[.int .i64 s, .slice A1 l1.length c1, .slice A2 l2.length c2] (0, 0) _ rfl P2.out hu29 rfl (by kernel_rfl)) rfl ?_
  exact ⟨s, l1, l2, _, _, _, _, rfl, Rw.own_ R1.out (fun k hk e => SEP.out k hk e.symm), Rw.own_ R2.out (fun k hk e => SEP.out k e.symm hk), HL.out, HB.out⟩
set_option maxHeartbeats 8000000 in
set_option maxRecDepth 100000 in
theorem drawFree_calls (A0 : Option Addr) (c0 : Nat) (l0 : List Int) (w : World) (hr0 : Kd.C (Kd.int .u8) w A0 l0.length l0) (hc0 : l0.length ≤ c0) (hw : ∀ x ∈ l0, (Lit.int .u8 x).wf = true) :
 Calls Try.prog 32 #[.slice A0 l0.length c0] w (FirmPost w) := by
 have hu29 := Try.underlying29
 have HR0 := Aside0.mk hr0
 have HC0 := Aside0.mk hc0
 have HW := Aside0.mk hw
 clear hr0 hc0 hw
 have HB := Aside0.mk (below_alloc (Below.refl w.heap.size w) (.cells #[.int .i64 0, .slice none 0 0, .slice none 0 0] 29 (0, 0)))
 have P2 := Aside0.mk (blk_new w (.cells #[.int .i64 0, .slice none 0 0, .slice none 0 0] 29 (0, 0)))
 go_enter Try.func32, Try.ntmps32
 go_wp2_with (fail)
 generalize w.alloc (.cells #[.int .i64 0, .slice none 0 0, .slice none 0 0] 29 (0, 0)) = W1 at HB P2 ⊢
 have Z1 := Aside0.mk (blk_lt P2.out)
 refine (drawFirm_calls A0 c0 l0 W1 (Kd.C_below HR0.out HB.out) HC0.out HW.out).mono ?_
 rintro e W2 ⟨s, l1, l2, v1, v2, st, ty, rfl, q1, q2, hl, hb⟩
 obtain ⟨A1, c1, e0⟩ := Kd.R_slice q1
 subst e0
 obtain ⟨A2, c2, e0⟩ := Kd.R_slice q2
 subst e0
 have SEP := Aside0.mk (show ∀ k, (Value.slice A1 l1.length c1).ownBlock = some k → (Value.slice A2 l2.length c2).ownBlock ≠ some k from fun k hk e => (q1.1 k hk) e.symm)
 have q1 := Rw.of q1 HB.out.size
 have q2 := Rw.of q2 HB.out.size
 have HL := Aside0.mk hl
 clear hl
 have ZZ := Aside0.mk Z1.out
 have ZZ := Aside0.mk (And.intro ZZ.out ((hb).size))
 have P2 := kb P2 (hb)
 have HB := kh HB (hb)
 clear hb
 have R1 := Aside0.mk q1
 have R2 := Aside0.mk q2
 clear q1 q2
 go_wp2_with (((with_reducible refine gate_store (t := 29) (p := 2) rfl ?_); refine wpList_store_row rfl 29 (.tmp 2) (.tmp 7) rfl w.heap.size #[.int .i64 s, .slice A1 l1.length c1, .slice A2 l2.length c2] rfl rfl 29 #[.int .i64 0, .slice none 0 0, .slice none 0 0] P2.out (by kernel_rfl) rfl (by simp [Value.oneCell']) ?_; refine Aside0.out ?_))
 obtain ⟨W3, e_⟩ : ∃ X, X = W2.setRow w.heap.size #[.int .i64 s, .slice A1 l1.length c1, .slice A2 l2.length c2] := ⟨_, rfl⟩
 rw [← e_]
 have R1 := kws R1 e_ (by have := ZZ.out; omega)
 have R2 := kws R2 e_ (by have := ZZ.out; omega)
 have P2 := kps P2 e_
 have HB := khs HB e_ (by have := ZZ.out; omega)
 have ZZ := Aside0.mk (And.intro ZZ.out (kzs e_))
 clear e_
 refine Aside0.mk ?_
 iterate 12 (try go_step)
 refine bodyPost_ret (results_ctt rfl _ _ w.heap.size 29 #[.int .i64 s, .slice A1 l1.length c1, .slice A2 l2.length c2] (0, 0) _ rfl P2.out hu29 rfl (by kernel_rfl)) rfl ?_
 exact ⟨s, l1, l2, _, _, st, ty, rfl, Rw.own_ R1.out (fun k hk e => SEP.out k hk e.symm), Rw.own_ R2.out (fun k hk e => SEP.out k e.symm hk), HL.out, HB.out⟩
end Go.Proofs.Ytjldpnhlegbjkaa.PA
