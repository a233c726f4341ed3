import Derived.Test.YtbjdnfgalopfiaaPEx0
import Derived.Test.YtbjdnfgalopfiaaPEx6
import Derived.Test.YtbjdnfgalopfiaaPEx8
import Derived.Test.YtbjdnfgalopfiaaPEx9
namespace Go.Proofs.Ytbjdnfgalopfiaa.PE
open Go.RowKit Go.Proofs.YtbjdnfgalopfiaaW.PrintWords Go.Proofs.YtbjdnfgalopfiaaW.PrintLast Go.Proofs.YtbjdnfgalopfiaaW.PrintMore
attribute [local go_sem] max2_int min2_int max_two min_two max_three min_three max_four min_four
set_option linter.unusedVariables false
set_option linter.unusedSimpArgs false

def laws_toWord.f (k : Nat) (a0_0 : Int) (a0_1 : Int) (a0_2 : Int) (a0_3 : Int) (a0_4 : Int) (a0_5 : Int) (a0_6 : Bool) (l0_7 : List Int) (l0_8 : List (S75)) (a0_9 : Int) (l0_10 : List Int) (a0_11 : Int) (a0_12 : Int) (a0_13 : Int) (a0_14 : ByteArray) (a0_15 : Int) (a0_16 : Int) : Option (Int × Int × Int × Int × Int × Int × Bool × List Int × (List (S68)) × Int × List Int × Int × Int × Int × ByteArray × Int × Int) := (laws_toIntS.f k l0_7).bind fun t90004 => ((laws_toPairS.f k l0_8).bind fun t90007 => ((laws_toIntS.f k l0_10).bind fun t90010 => ((laws_toCall.f a0_11 a0_12 a0_13 a0_14 a0_15 a0_16).bind fun bt90013 => (some (a0_0, a0_1, a0_2, a0_3, a0_4, a0_5, a0_6, t90004, t90007, a0_9, t90010, bt90013.1, bt90013.2.1, bt90013.2.2.1, bt90013.2.2.2.1, bt90013.2.2.2.2.1, bt90013.2.2.2.2.2)))))
theorem laws_toWord.mono : ∀ a0 a1 a2 a3 a4 a5 a6 a7 a8 a9 a10 a11 a12 a13 a14 a15 a16 k, LeO (laws_toWord.f k a0 a1 a2 a3 a4 a5 a6 a7 a8 a9 a10 a11 a12 a13 a14 a15 a16) (laws_toWord.f (k + 1) a0 a1 a2 a3 a4 a5 a6 a7 a8 a9 a10 a11 a12 a13 a14 a15 a16) := by
 intro a0 a1 a2 a3 a4 a5 a6 a7 a8 a9 a10 a11 a12 a13 a14 a15 a16 k
 unfold laws_toWord.f
 repeat' first
  | (with_reducible exact laws_toIntS.mono _ _)
  | (with_reducible exact laws_toPairS.mono _ _)
  | (with_reducible exact LeO.refl _)
  | (with_reducible exact LeO.none _)
  | (with_reducible refine LeO.ite ?_ ?_)
  | (with_reducible refine LeO.bind ?_ (fun _ => ?_))
  | exact laws_toIntS.mono _ _
  | exact laws_toPairS.mono _ _
  | exact LeO.none _
  | refine LeO.ite ?_ ?_
  | refine LeO.bind ?_ (fun _ => ?_)
set_option maxHeartbeats 8000000 in
set_option maxRecDepth 100000 in
theorem laws_toWord.calls (k : Nat) (a0_0 : Int) (a0_1 : Int) (a0_2 : Int) (a0_3 : Int) (a0_4 : Int) (a0_5 : Int) (a0_6 : Bool) (A0_7 : Option Addr) (c0_7 : Nat) (l0_7 : List Int) (A0_8 : Option Addr) (c0_8 : Nat) (l0_8 : List (S75)) (a0_9 : Int) (A0_10 : Option Addr) (c0_10 : Nat) (l0_10 : List Int) (a0_11 : Int) (a0_12 : Int) (a0_13 : Int) (a0_14 : ByteArray) (a0_15 : Int) (a0_16 : Int) (r1 : Int) (r2 : Int) (r3 : Int) (r4 : Int) (r5 : Int) (r6 : Int) (r7 : Bool) (r8 : List Int) (r9 : List (S68)) (r10 : Int) (r11 : List Int) (r12 : Int) (r13 : Int) (r14 : Int) (r15 : ByteArray) (r16 : Int) (r17 : Int) (w : World) (hr0_7 : Kd.C (Kd.int .i64) w A0_7 l0_7.length l0_7) (hc0_7 : l0_7.length ≤ c0_7) (hr0_8 : Kd.C k75 w A0_8 l0_8.length l0_8) (hc0_8 : l0_8.length ≤ c0_8) (hr0_10 : Kd.C (Kd.int .i64) w A0_10 l0_10.length l0_10) (hc0_10 : l0_10.length ≤ c0_10) (h : laws_toWord.f k a0_0 a0_1 a0_2 a0_3 a0_4 a0_5 a0_6 l0_7 l0_8 a0_9 l0_10 a0_11 a0_12 a0_13 a0_14 a0_15 a0_16 = some (r1, r2, r3, r4, r5, r6, r7, r8, r9, r10, r11, r12, r13, r14, r15, r16, r17)) :
 Calls Try.prog 8 #[.agg #[.int .i64 a0_0, .int .i64 a0_1, .int .i64 a0_2, .int .i64 a0_3, .int .i64 a0_4, .int .i64 a0_5, .bool a0_6, .slice A0_7 l0_7.length c0_7, .slice A0_8 l0_8.length c0_8, .int .i64 a0_9, .slice A0_10 l0_10.length c0_10, .int .i64 a0_11, .int .i64 a0_12, .int .i64 a0_13, .string a0_14, .int .i64 a0_15, .int .i64 a0_16]] w fun e w' => ∃ v7_ v8_ v10_ : Value, e = .returned (.agg #[.int .i64 r1, .int .i64 r2, .int .i64 r3, .int .i64 r4, .int .i64 r5, .int .i64 r6, .bool r7, v7_, v8_, .int .i64 r10, v10_, .int .i64 r12, .int .i64 r13, .int .i64 r14, .string r15, .int .i64 r16, .int .i64 r17]) ∧ Kd.R (Kd.int .i64) 3 w' w.heap.size (fun k_ => some k_ ≠ (v10_ : Value).ownBlock) v7_ r8 ∧ Kd.R k68 68 w' w.heap.size (fun _ => True) v8_ r9 ∧ Kd.R (Kd.int .i64) 3 w' w.heap.size (fun k_ => some k_ ≠ (v7_ : Value).ownBlock) v10_ r11 ∧ Below w.heap.size w w' := by
 have hu27 := Try.underlying27
 have hu33 := Try.underlying33
 have HR7 := Aside0.mk hr0_7
 have HR8 := Aside0.mk hr0_8
 have HR10 := Aside0.mk hr0_10
 clear hr0_7 hr0_8 hr0_10
 have H : ((laws_toIntS.f k l0_7).bind fun jb => ((laws_toPairS.f k l0_8).bind fun jc => ((laws_toIntS.f k l0_10).bind fun jd => ((laws_toCall.f a0_11 a0_12 a0_13 a0_14 a0_15 a0_16).bind fun ja => (some (a0_0, a0_1, a0_2, a0_3, a0_4, a0_5, a0_6, jb, jc, a0_9, jd, ja.1, ja.2.1, ja.2.2.1, ja.2.2.2.1, ja.2.2.2.2.1, ja.2.2.2.2.2)))))) = some (r1, r2, r3, r4, r5, r6, r7, r8, r9, r10, r11, r12, r13, r14, r15, r16, r17) := h
 clear h
 obtain ⟨s7, A7, H⟩ := Option.bind_eq_some_iff.mp H
 obtain ⟨s8, A8, H⟩ := Option.bind_eq_some_iff.mp H
 obtain ⟨s10, A10, H⟩ := Option.bind_eq_some_iff.mp H
 have H : some (a0_0, a0_1, a0_2, a0_3, a0_4, a0_5, a0_6, s7, s8, a0_9, s10, a0_11, a0_12, a0_13, a0_14, a0_15, a0_16) = some (r1, r2, r3, r4, r5, r6, r7, r8, r9, r10, r11, r12, r13, r14, r15, r16, r17) := H
 simp only [Option.some.injEq, Prod.mk.injEq] at H
 obtain ⟨rfl, rfl, rfl, rfl, rfl, rfl, rfl, rfl, rfl, rfl, rfl, rfl, rfl, rfl, rfl, rfl, rfl⟩ := H
 have E7 := Aside0.mk A7
 have E8 := Aside0.mk A8
 have E10 := Aside0.mk A10
 clear A7 A8 A10
 go_enter Try.func8, Try.ntmps8
 go_wp2_with (fail)
 have Q1 : Aside0 ((w.alloc (.cells #[.int .i64 a0_0, .int .i64 a0_1, .int .i64 a0_2, .int .i64 a0_3, .int .i64 a0_4, .int .i64 a0_5, .bool a0_6, .slice A0_7 l0_7.length c0_7, .slice A0_8 l0_8.length c0_8, .int .i64 a0_9, .slice A0_10 l0_10.length c0_10, .int .i64 a0_11, .int .i64 a0_12, .int .i64 a0_13, .string a0_14, .int .i64 a0_15, .int .i64 a0_16] 27 (0, 0))).heap[w.heap.size]? = some (.cells #[.int .i64 a0_0, .int .i64 a0_1, .int .i64 a0_2, .int .i64 a0_3, .int .i64 a0_4, .int .i64 a0_5, .bool a0_6, .slice A0_7 l0_7.length c0_7, .slice A0_8 l0_8.length c0_8, .int .i64 a0_9, .slice A0_10 l0_10.length c0_10, .int .i64 a0_11, .int .i64 a0_12, .int .i64 a0_13, .string a0_14, .int .i64 a0_15, .int .i64 a0_16] 27 (0, 0))) := ⟨blk_new _ _⟩
 have hs1 : (w.alloc (.cells #[.int .i64 a0_0, .int .i64 a0_1, .int .i64 a0_2, .int .i64 a0_3, .int .i64 a0_4, .int .i64 a0_5, .bool a0_6, .slice A0_7 l0_7.length c0_7, .slice A0_8 l0_8.length c0_8, .int .i64 a0_9, .slice A0_10 l0_10.length c0_10, .int .i64 a0_11, .int .i64 a0_12, .int .i64 a0_13, .string a0_14, .int .i64 a0_15, .int .i64 a0_16] 27 (0, 0))).heap.size = w.heap.size + 1 := by simp
 have hs2 : ((w.alloc (.cells #[.int .i64 a0_0, .int .i64 a0_1, .int .i64 a0_2, .int .i64 a0_3, .int .i64 a0_4, .int .i64 a0_5, .bool a0_6, .slice A0_7 l0_7.length c0_7, .slice A0_8 l0_8.length c0_8, .int .i64 a0_9, .slice A0_10 l0_10.length c0_10, .int .i64 a0_11, .int .i64 a0_12, .int .i64 a0_13, .string a0_14, .int .i64 a0_15, .int .i64 a0_16] 27 (0, 0))).alloc (.cells #[.int .i64 0, .int .i64 0, .int .i64 0, .int .i64 0, .int .i64 0, .int .i64 0, .bool false, .slice none 0 0, .slice none 0 0, .int .i64 0, .slice none 0 0, .int .i64 0, .int .i64 0, .int .i64 0, .string (⟨#[]⟩ : ByteArray), .int .i64 0, .int .i64 0] 33 (0, 0))).heap.size = w.heap.size + 1 + 1 := by simp
 have HB1 := Aside0.mk (below_alloc (below_alloc (below_alloc (Below.refl w.heap.size w) (.cells #[.int .i64 a0_0, .int .i64 a0_1, .int .i64 a0_2, .int .i64 a0_3, .int .i64 a0_4, .int .i64 a0_5, .bool a0_6, .slice A0_7 l0_7.length c0_7, .slice A0_8 l0_8.length c0_8, .int .i64 a0_9, .slice A0_10 l0_10.length c0_10, .int .i64 a0_11, .int .i64 a0_12, .int .i64 a0_13, .string a0_14, .int .i64 a0_15, .int .i64 a0_16] 27 (0, 0))) (.cells #[.int .i64 0, .int .i64 0, .int .i64 0, .int .i64 0, .int .i64 0, .int .i64 0, .bool false, .slice none 0 0, .slice none 0 0, .int .i64 0, .slice none 0 0, .int .i64 0, .int .i64 0, .int .i64 0, .string (⟨#[]⟩ : ByteArray), .int .i64 0, .int .i64 0] 33 (0, 0))) (.cells #[.int .i64 a0_0, .int .i64 a0_1, .int .i64 a0_2, .int .i64 a0_3, .int .i64 a0_4, .int .i64 a0_5, .bool a0_6, .slice none 0 0, .slice none 0 0, .int .i64 0, .slice none 0 0, .int .i64 0, .int .i64 0, .int .i64 0, .string (⟨#[]⟩ : ByteArray), .int .i64 0, .int .i64 0] 33 (0, 0)))
 have P1 := Aside0.mk (blk_alloc (blk_alloc Q1.out (.cells #[.int .i64 0, .int .i64 0, .int .i64 0, .int .i64 0, .int .i64 0, .int .i64 0, .bool false, .slice none 0 0, .slice none 0 0, .int .i64 0, .slice none 0 0, .int .i64 0, .int .i64 0, .int .i64 0, .string (⟨#[]⟩ : ByteArray), .int .i64 0, .int .i64 0] 33 (0, 0))) (.cells #[.int .i64 a0_0, .int .i64 a0_1, .int .i64 a0_2, .int .i64 a0_3, .int .i64 a0_4, .int .i64 a0_5, .bool a0_6, .slice none 0 0, .slice none 0 0, .int .i64 0, .slice none 0 0, .int .i64 0, .int .i64 0, .int .i64 0, .string (⟨#[]⟩ : ByteArray), .int .i64 0, .int .i64 0] 33 (0, 0)))
 have P2 := Aside0.mk (blk_alloc (blk_new (w.alloc (.cells #[.int .i64 a0_0, .int .i64 a0_1, .int .i64 a0_2, .int .i64 a0_3, .int .i64 a0_4, .int .i64 a0_5, .bool a0_6, .slice A0_7 l0_7.length c0_7, .slice A0_8 l0_8.length c0_8, .int .i64 a0_9, .slice A0_10 l0_10.length c0_10, .int .i64 a0_11, .int .i64 a0_12, .int .i64 a0_13, .string a0_14, .int .i64 a0_15, .int .i64 a0_16] 27 (0, 0))) (.cells #[.int .i64 0, .int .i64 0, .int .i64 0, .int .i64 0, .int .i64 0, .int .i64 0, .bool false, .slice none 0 0, .slice none 0 0, .int .i64 0, .slice none 0 0, .int .i64 0, .int .i64 0, .int .i64 0, .string (⟨#[]⟩ : ByteArray), .int .i64 0, .int .i64 0] 33 (0, 0))) (.cells #[.int .i64 a0_0, .int .i64 a0_1, .int .i64 a0_2, .int .i64 a0_3, .int .i64 a0_4, .int .i64 a0_5, .bool a0_6, .slice none 0 0, .slice none 0 0, .int .i64 0, .slice none 0 0, .int .i64 0, .int .i64 0, .int .i64 0, .string (⟨#[]⟩ : ByteArray), .int .i64 0, .int .i64 0] 33 (0, 0)))
 have P3 := Aside0.mk (blk_new ((w.alloc (.cells #[.int .i64 a0_0, .int .i64 a0_1, .int .i64 a0_2, .int .i64 a0_3, .int .i64 a0_4, .int .i64 a0_5, .bool a0_6, .slice A0_7 l0_7.length c0_7, .slice A0_8 l0_8.length c0_8, .int .i64 a0_9, .slice A0_10 l0_10.length c0_10, .int .i64 a0_11, .int .i64 a0_12, .int .i64 a0_13, .string a0_14, .int .i64 a0_15, .int .i64 a0_16] 27 (0, 0))).alloc (.cells #[.int .i64 0, .int .i64 0, .int .i64 0, .int .i64 0, .int .i64 0, .int .i64 0, .bool false, .slice none 0 0, .slice none 0 0, .int .i64 0, .slice none 0 0, .int .i64 0, .int .i64 0, .int .i64 0, .string (⟨#[]⟩ : ByteArray), .int .i64 0, .int .i64 0] 33 (0, 0))) (.cells #[.int .i64 a0_0, .int .i64 a0_1, .int .i64 a0_2, .int .i64 a0_3, .int .i64 a0_4, .int .i64 a0_5, .bool a0_6, .slice none 0 0, .slice none 0 0, .int .i64 0, .slice none 0 0, .int .i64 0, .int .i64 0, .int .i64 0, .string (⟨#[]⟩ : ByteArray), .int .i64 0, .int .i64 0] 33 (0, 0)))
 rw [hs1] at P2
 rw [hs2] at P3
 clear hs1 hs2 Q1
 generalize hW1 : ((w.alloc (.cells #[.int .i64 a0_0, .int .i64 a0_1, .int .i64 a0_2, .int .i64 a0_3, .int .i64 a0_4, .int .i64 a0_5, .bool a0_6, .slice A0_7 l0_7.length c0_7, .slice A0_8 l0_8.length c0_8, .int .i64 a0_9, .slice A0_10 l0_10.length c0_10, .int .i64 a0_11, .int .i64 a0_12, .int .i64 a0_13, .string a0_14, .int .i64 a0_15, .int .i64 a0_16] 27 (0, 0))).alloc (.cells #[.int .i64 0, .int .i64 0, .int .i64 0, .int .i64 0, .int .i64 0, .int .i64 0, .bool false, .slice none 0 0, .slice none 0 0, .int .i64 0, .slice none 0 0, .int .i64 0, .int .i64 0, .int .i64 0, .string (⟨#[]⟩ : ByteArray), .int .i64 0, .int .i64 0] 33 (0, 0))).alloc (.cells #[.int .i64 a0_0, .int .i64 a0_1, .int .i64 a0_2, .int .i64 a0_3, .int .i64 a0_4, .int .i64 a0_5, .bool a0_6, .slice none 0 0, .slice none 0 0, .int .i64 0, .slice none 0 0, .int .i64 0, .int .i64 0, .int .i64 0, .string (⟨#[]⟩ : ByteArray), .int .i64 0, .int .i64 0] 33 (0, 0)) = W1 at HB1 P1 P2 P3 ⊢
 clear hW1
 have G1 : w.heap.size < w.heap.size + 1 := Nat.lt_succ_self _
 have G2 : w.heap.size + 1 < w.heap.size + 1 + 1 := Nat.lt_succ_self _
 generalize w.heap.size + 1 + 1 = b3 at P3 G2 ⊢
 generalize w.heap.size + 1 = b2 at P2 G1 G2 ⊢
 have K3 : Aside0 (b3 < W1.heap.size) := ⟨blk_lt P3.out⟩
 have G := Aside0.mk (And.intro G1 G2)
 clear G1 G2
 refine (laws_toIntS.calls k A0_7 c0_7 l0_7 s7 W1 (Kd.C_below HR7.out HB1.out) hc0_7 E7.out).mono ?_
 rintro e W2 ⟨v7, rfl, r7, hb⟩
 have L7 := Aside0.mk (Kd.R_base r7)
 obtain ⟨B7, d7, e7⟩ := Kd.R_slice r7
 subst e7
 have R7 := Aside0.mk (Kd.R_lower (Kd.R_mono (Kd.R_bound r7) (ok' := fun k => b3 < k ∧ W1.heap.size ≤ k ∧ k < W2.heap.size) (fun k hk => ⟨Nat.lt_of_lt_of_le K3.out hk.2.1, hk.2.1, hk.2.2.1⟩)) (HB1.out.size))
 have P1 := Aside0.mk (blk_below P1.out hb)
 have P2 := Aside0.mk (blk_below P2.out hb)
 have P3 := Aside0.mk (blk_below P3.out hb)
 have HB1 := Aside0.mk (below_step HB1.out hb)
 have S7 := Aside0.mk hb.size
 have K3 := Aside0.mk (blk_lt P3.out)
 clear hb r7
 have hz8 := (blk_cell P1.out 8).trans (show _ = some (.slice A0_8 l0_8.length c0_8) from rfl)
 have hd7 := (blk_cell P3.out 7).trans (show _ = some (.slice none 0 0) from rfl)
 have hf7 := blk_frozen P3.out 7
 have h13 : w.heap.size ≠ b3 := by have := G.out; omega
 have h31 : b3 ≠ w.heap.size := by have := G.out; omega
 go_wp2_with (fail)
 clear hz8 hd7 hf7
 have M2 : Aside0 (W2.heap.size ≤ (W2.setCell ⟨b3, 7, none⟩ (.slice B7 s7.length d7)).heap.size) := ⟨by simp⟩
 have P1 := Aside0.mk (blk_far (p := ⟨b3, 7, none⟩) P1.out (show w.heap.size ≠ b3 by have := G.out; omega) (.slice B7 s7.length d7))
 have P2 := Aside0.mk (blk_far (p := ⟨b3, 7, none⟩) P2.out (show b2 ≠ b3 by have := G.out; omega) (.slice B7 s7.length d7))
 have P3 := Aside0.mk (blk_put (cs' := #[.int .i64 a0_0, .int .i64 a0_1, .int .i64 a0_2, .int .i64 a0_3, .int .i64 a0_4, .int .i64 a0_5, .bool a0_6, .slice B7 s7.length d7, .slice none 0 0, .int .i64 0, .slice none 0 0, .int .i64 0, .int .i64 0, .int .i64 0, .string (⟨#[]⟩ : ByteArray), .int .i64 0, .int .i64 0]) P3.out 7 (.slice B7 s7.length d7) rfl)
 have HB1 := Aside0.mk (below_set (g := b3) (j := 7) (v := .slice B7 s7.length d7) HB1.out (by have := G.out; omega))
 have R7 := Aside0.mk (Kd.R_far (p := ⟨b3, 7, none⟩) R7.out (fun k hk => Nat.ne_of_gt hk.1) (.slice B7 s7.length d7))
 generalize hW : W2.setCell ⟨b3, 7, none⟩ (.slice B7 s7.length d7) = W3 at P1 P2 P3 HB1 R7 M2 ⊢
 clear hW
 have K3 := Aside0.mk (blk_lt P3.out)
 refine (laws_toPairS.calls k A0_8 c0_8 l0_8 s8 W3 (Kd.C_below HR8.out HB1.out) hc0_8 E8.out).mono ?_
 rintro e W4 ⟨v8, rfl, r8, hb⟩
 have L8 := Aside0.mk (Kd.R_base r8)
 obtain ⟨B8, d8, e8⟩ := Kd.R_slice r8
 subst e8
 have R8 := Aside0.mk (Kd.R_lower (Kd.R_mono (Kd.R_bound r8) (ok' := fun k => b3 < k ∧ W3.heap.size ≤ k ∧ k < W4.heap.size) (fun k hk => ⟨Nat.lt_of_lt_of_le K3.out hk.2.1, hk.2.1, hk.2.2.1⟩)) (HB1.out.size))
 have R7 := Aside0.mk (Kd.R_below R7.out hb)
 have P1 := Aside0.mk (blk_below P1.out hb)
 have P2 := Aside0.mk (blk_below P2.out hb)
 have P3 := Aside0.mk (blk_below P3.out hb)
 have HB1 := Aside0.mk (below_step HB1.out hb)
 have S8 := Aside0.mk hb.size
 have K3 := Aside0.mk (blk_lt P3.out)
 clear hb r8
 have hz9 := (blk_cell P1.out 9).trans (show _ = some (.int .i64 a0_9) from rfl)
 have hz10 := (blk_cell P1.out 10).trans (show _ = some (.slice A0_10 l0_10.length c0_10) from rfl)
 have hd8 := (blk_cell P3.out 8).trans (show _ = some (.slice none 0 0) from rfl)
 have hf8 := blk_frozen P3.out 8
 have hd9 := (blk_cell P3.out 9).trans (show _ = some (.int .i64 0) from rfl)
 have hf9 := blk_frozen P3.out 9
 go_wp2_with (fail)
 clear hz9 hz10 hd8 hf8 hd9 hf9
 have M4 : Aside0 (W4.heap.size ≤ ((W4.setCell ⟨b3, 8, none⟩ (.slice B8 s8.length d8)).setCell ⟨b3, 9, none⟩ (.int .i64 a0_9)).heap.size) := ⟨by simp⟩
 have P1 := Aside0.mk (blk_far (p := ⟨b3, 8, none⟩) P1.out (show w.heap.size ≠ b3 by have := G.out; omega) (.slice B8 s8.length d8))
 have P2 := Aside0.mk (blk_far (p := ⟨b3, 8, none⟩) P2.out (show b2 ≠ b3 by have := G.out; omega) (.slice B8 s8.length d8))
 have P3 := Aside0.mk (blk_put (cs' := #[.int .i64 a0_0, .int .i64 a0_1, .int .i64 a0_2, .int .i64 a0_3, .int .i64 a0_4, .int .i64 a0_5, .bool a0_6, .slice B7 s7.length d7, .slice B8 s8.length d8, .int .i64 0, .slice none 0 0, .int .i64 0, .int .i64 0, .int .i64 0, .string (⟨#[]⟩ : ByteArray), .int .i64 0, .int .i64 0]) P3.out 8 (.slice B8 s8.length d8) rfl)
 have HB1 := Aside0.mk (below_set (g := b3) (j := 8) (v := .slice B8 s8.length d8) HB1.out (by have := G.out; omega))
 have R7 := Aside0.mk (Kd.R_far (p := ⟨b3, 8, none⟩) R7.out (fun k hk => Nat.ne_of_gt hk.1) (.slice B8 s8.length d8))
 have R8 := Aside0.mk (Kd.R_far (p := ⟨b3, 8, none⟩) R8.out (fun k hk => Nat.ne_of_gt hk.1) (.slice B8 s8.length d8))
 have P1 := Aside0.mk (blk_far (p := ⟨b3, 9, none⟩) P1.out (show w.heap.size ≠ b3 by have := G.out; omega) (.int .i64 a0_9))
 have P2 := Aside0.mk (blk_far (p := ⟨b3, 9, none⟩) P2.out (show b2 ≠ b3 by have := G.out; omega) (.int .i64 a0_9))
 have P3 := Aside0.mk (blk_put (cs' := #[.int .i64 a0_0, .int .i64 a0_1, .int .i64 a0_2, .int .i64 a0_3, .int .i64 a0_4, .int .i64 a0_5, .bool a0_6, .slice B7 s7.length d7, .slice B8 s8.length d8, .int .i64 a0_9, .slice none 0 0, .int .i64 0, .int .i64 0, .int .i64 0, .string (⟨#[]⟩ : ByteArray), .int .i64 0, .int .i64 0]) P3.out 9 (.int .i64 a0_9) rfl)
 have HB1 := Aside0.mk (below_set (g := b3) (j := 9) (v := .int .i64 a0_9) HB1.out (by have := G.out; omega))
 have R7 := Aside0.mk (Kd.R_far (p := ⟨b3, 9, none⟩) R7.out (fun k hk => Nat.ne_of_gt hk.1) (.int .i64 a0_9))
 have R8 := Aside0.mk (Kd.R_far (p := ⟨b3, 9, none⟩) R8.out (fun k hk => Nat.ne_of_gt hk.1) (.int .i64 a0_9))
 generalize hW : (W4.setCell ⟨b3, 8, none⟩ (.slice B8 s8.length d8)).setCell ⟨b3, 9, none⟩ (.int .i64 a0_9) = W5 at P1 P2 P3 HB1 R7 R8 M4 ⊢
 clear hW
 have K3 := Aside0.mk (blk_lt P3.out)
 refine (laws_toIntS.calls k A0_10 c0_10 l0_10 s10 W5 (Kd.C_below HR10.out HB1.out) hc0_10 E10.out).mono ?_
 rintro e W6 ⟨v10, rfl, r10, hb⟩
 have L10 := Aside0.mk (Kd.R_base r10)
 obtain ⟨B10, d10, e10⟩ := Kd.R_slice r10
 subst e10
 have R10 := Aside0.mk (Kd.R_lower (Kd.R_mono (Kd.R_bound r10) (ok' := fun k => b3 < k ∧ W5.heap.size ≤ k ∧ k < W6.heap.size) (fun k hk => ⟨Nat.lt_of_lt_of_le K3.out hk.2.1, hk.2.1, hk.2.2.1⟩)) (HB1.out.size))
 have R7 := Aside0.mk (Kd.R_below R7.out hb)
 have R8 := Aside0.mk (Kd.R_below R8.out hb)
 have P1 := Aside0.mk (blk_below P1.out hb)
 have P2 := Aside0.mk (blk_below P2.out hb)
 have P3 := Aside0.mk (blk_below P3.out hb)
 have HB1 := Aside0.mk (below_step HB1.out hb)
 have S10 := Aside0.mk hb.size
 have K3 := Aside0.mk (blk_lt P3.out)
 clear hb r10
 have hz11 := (blk_cell P1.out 11).trans (show _ = some (.int .i64 a0_11) from rfl)
 have hz12 := (blk_cell P1.out 12).trans (show _ = some (.int .i64 a0_12) from rfl)
 have hz13 := (blk_cell P1.out 13).trans (show _ = some (.int .i64 a0_13) from rfl)
 have hz14 := (blk_cell P1.out 14).trans (show _ = some (.string a0_14) from rfl)
 have hz15 := (blk_cell P1.out 15).trans (show _ = some (.int .i64 a0_15) from rfl)
 have hz16 := (blk_cell P1.out 16).trans (show _ = some (.int .i64 a0_16) from rfl)
 have hd10 := (blk_cell P3.out 10).trans (show _ = some (.slice none 0 0) from rfl)
 have hf10 := blk_frozen P3.out 10
 go_wp2_with (fail)
 clear hz11 hz12 hz13 hz14 hz15 hz16 hd10 hf10
 have P1 := Aside0.mk (blk_far (p := ⟨b3, 10, none⟩) P1.out (show w.heap.size ≠ b3 by have := G.out; omega) (.slice B10 s10.length d10))
 have P2 := Aside0.mk (blk_far (p := ⟨b3, 10, none⟩) P2.out (show b2 ≠ b3 by have := G.out; omega) (.slice B10 s10.length d10))
 have P3 := Aside0.mk (blk_put (cs' := #[.int .i64 a0_0, .int .i64 a0_1, .int .i64 a0_2, .int .i64 a0_3, .int .i64 a0_4, .int .i64 a0_5, .bool a0_6, .slice B7 s7.length d7, .slice B8 s8.length d8, .int .i64 a0_9, .slice B10 s10.length d10, .int .i64 0, .int .i64 0, .int .i64 0, .string (⟨#[]⟩ : ByteArray), .int .i64 0, .int .i64 0]) P3.out 10 (.slice B10 s10.length d10) rfl)
 have HB1 := Aside0.mk (below_set (g := b3) (j := 10) (v := .slice B10 s10.length d10) HB1.out (by have := G.out; omega))
 have R7 := Aside0.mk (Kd.R_far (p := ⟨b3, 10, none⟩) R7.out (fun k hk => Nat.ne_of_gt hk.1) (.slice B10 s10.length d10))
 have R8 := Aside0.mk (Kd.R_far (p := ⟨b3, 10, none⟩) R8.out (fun k hk => Nat.ne_of_gt hk.1) (.slice B10 s10.length d10))
 have R10 := Aside0.mk (Kd.R_far (p := ⟨b3, 10, none⟩) R10.out (fun k hk => Nat.ne_of_gt hk.1) (.slice B10 s10.length d10))
 generalize hW : W6.setCell ⟨b3, 10, none⟩ (.slice B10 s10.length d10) = W7 at P1 P2 P3 HB1 R7 R8 R10 ⊢
 clear hW
 refine (laws_toCall.calls a0_11 a0_12 a0_13 a0_14 a0_15 a0_16 _ _ _ _ _ _ W7 rfl).mono ?_
 rintro e W8 ⟨rfl, hb⟩
 have R7 := Aside0.mk (Kd.R_below R7.out hb)
 have R8 := Aside0.mk (Kd.R_below R8.out hb)
 have R10 := Aside0.mk (Kd.R_below R10.out hb)
 have P1 := Aside0.mk (blk_below P1.out hb)
 have P2 := Aside0.mk (blk_below P2.out hb)
 have P3 := Aside0.mk (blk_below P3.out hb)
 have HB1 := Aside0.mk (below_step HB1.out hb)
 have S11 := Aside0.mk hb.size
 have K3 := Aside0.mk (blk_lt P3.out)
 clear hb
 have hd11 := (blk_cell P3.out 11).trans (show _ = some (.int .i64 0) from rfl)
 have hf11 := blk_frozen P3.out 11
 have hd12 := (blk_cell P3.out 12).trans (show _ = some (.int .i64 0) from rfl)
 have hf12 := blk_frozen P3.out 12
 have hd13 := (blk_cell P3.out 13).trans (show _ = some (.int .i64 0) from rfl)
 have hf13 := blk_frozen P3.out 13
 have hd14 := (blk_cell P3.out 14).trans (show _ = some (.string (⟨#[]⟩ : ByteArray)) from rfl)
 have hf14 := blk_frozen P3.out 14
 have hd15 := (blk_cell P3.out 15).trans (show _ = some (.int .i64 0) from rfl)
 have hf15 := blk_frozen P3.out 15
 have hd16 := (blk_cell P3.out 16).trans (show _ = some (.int .i64 0) from rfl)
 have hf16 := blk_frozen P3.out 16
 go_wp2_with (first | ((with_reducible refine gate_dst (N := 44) rfl ?_); clear hd11 hd12 hd13 hd14 hd15 hd16 hf11 hf12 hf13 hf14 hf15 hf16; have P1 := Aside0.mk (blk_far (p := ⟨b3, 11, none⟩) P1.out (show w.heap.size ≠ b3 by have := G.out; omega) (.int .i64 a0_11)); have P2 := Aside0.mk (blk_far (p := ⟨b3, 11, none⟩) P2.out (show b2 ≠ b3 by have := G.out; omega) (.int .i64 a0_11)); have P3 := Aside0.mk (blk_put (cs' := #[.int .i64 a0_0, .int .i64 a0_1, .int .i64 a0_2, .int .i64 a0_3, .int .i64 a0_4, .int .i64 a0_5, .bool a0_6, .slice B7 s7.length d7, .slice B8 s8.length d8, .int .i64 a0_9, .slice B10 s10.length d10, .int .i64 a0_11, .int .i64 0, .int .i64 0, .string (⟨#[]⟩ : ByteArray), .int .i64 0, .int .i64 0]) P3.out 11 (.int .i64 a0_11) rfl); have HB1 := Aside0.mk (below_set (g := b3) (j := 11) (v := .int .i64 a0_11) HB1.out (by have := G.out; omega)); have R7 := Aside0.mk (Kd.R_far (p := ⟨b3, 11, none⟩) R7.out (fun k hk => Nat.ne_of_gt hk.1) (.int .i64 a0_11)); have R8 := Aside0.mk (Kd.R_far (p := ⟨b3, 11, none⟩) R8.out (fun k hk => Nat.ne_of_gt hk.1) (.int .i64 a0_11)); have R10 := Aside0.mk (Kd.R_far (p := ⟨b3, 11, none⟩) R10.out (fun k hk => Nat.ne_of_gt hk.1) (.int .i64 a0_11)); have P1 := Aside0.mk (blk_far (p := ⟨b3, 12, none⟩) P1.out (show w.heap.size ≠ b3 by have := G.out; omega) (.int .i64 a0_12)); have P2 := Aside0.mk (blk_far (p := ⟨b3, 12, none⟩) P2.out (show b2 ≠ b3 by have := G.out; omega) (.int .i64 a0_12)); have P3 := Aside0.mk (blk_put (cs' := #[.int .i64 a0_0, .int .i64 a0_1, .int .i64 a0_2, .int .i64 a0_3, .int .i64 a0_4, .int .i64 a0_5, .bool a0_6, .slice B7 s7.length d7, .slice B8 s8.length d8, .int .i64 a0_9, .slice B10 s10.length d10, .int .i64 a0_11, .int .i64 a0_12, .int .i64 0, .string (⟨#[]⟩ : ByteArray), .int .i64 0, .int .i64 0]) P3.out 12 (.int .i64 a0_12) rfl); have HB1 := Aside0.mk (below_set (g := b3) (j := 12) (v := .int .i64 a0_12) HB1.out (by have := G.out; omega)); have R7 := Aside0.mk (Kd.R_far (p := ⟨b3, 12, none⟩) R7.out (fun k hk => Nat.ne_of_gt hk.1) (.int .i64 a0_12)); have R8 := Aside0.mk (Kd.R_far (p := ⟨b3, 12, none⟩) R8.out (fun k hk => Nat.ne_of_gt hk.1) (.int .i64 a0_12)); have R10 := Aside0.mk (Kd.R_far (p := ⟨b3, 12, none⟩) R10.out (fun k hk => Nat.ne_of_gt hk.1) (.int .i64 a0_12)); have P1 := Aside0.mk (blk_far (p := ⟨b3, 13, none⟩) P1.out (show w.heap.size ≠ b3 by have := G.out; omega) (.int .i64 a0_13)); have P2 := Aside0.mk (blk_far (p := ⟨b3, 13, none⟩) P2.out (show b2 ≠ b3 by have := G.out; omega) (.int .i64 a0_13)); have P3 := Aside0.mk (blk_put (cs' := #[.int .i64 a0_0, .int .i64 a0_1, .int .i64 a0_2, .int .i64 a0_3, .int .i64 a0_4, .int .i64 a0_5, .bool a0_6, .slice B7 s7.length d7, .slice B8 s8.length d8, .int .i64 a0_9, .slice B10 s10.length d10, .int .i64 a0_11, .int .i64 a0_12, .int .i64 a0_13, .string (⟨#[]⟩ : ByteArray), .int .i64 0, .int .i64 0]) P3.out 13 (.int .i64 a0_13) rfl); have HB1 := Aside0.mk (below_set (g := b3) (j := 13) (v := .int .i64 a0_13) HB1.out (by have := G.out; omega)); have R7 := Aside0.mk (Kd.R_far (p := ⟨b3, 13, none⟩) R7.out (fun k hk => Nat.ne_of_gt hk.1) (.int .i64 a0_13)); have R8 := Aside0.mk (Kd.R_far (p := ⟨b3, 13, none⟩) R8.out (fun k hk => Nat.ne_of_gt hk.1) (.int .i64 a0_13)); have R10 := Aside0.mk (Kd.R_far (p := ⟨b3, 13, none⟩) R10.out (fun k hk => Nat.ne_of_gt hk.1) (.int .i64 a0_13)); have P1 := Aside0.mk (blk_far (p := ⟨b3, 14, none⟩) P1.out (show w.heap.size ≠ b3 by have := G.out; omega) (.string a0_14)); have P2 := Aside0.mk (blk_far (p := ⟨b3, 14, none⟩) P2.out (show b2 ≠ b3 by have := G.out; omega) (.string a0_14)); have P3 := Aside0.mk (blk_put (cs' := #[.int .i64 a0_0, .int .i64 a0_1, .int .i64 a0_2, .int .i64 a0_3, .int .i64 a0_4, .int .i64 a0_5, .bool a0_6, .slice B7 s7.length d7, .slice B8 s8.length d8, .int .i64 a0_9, .slice B10 s10.length d10, .int .i64 a0_11, .int .i64 a0_12, .int .i64 a0_13, .string a0_14, .int .i64 0, .int .i64 0]) P3.out 14 (.string a0_14) rfl); have HB1 := Aside0.mk (below_set (g := b3) (j := 14) (v := .string a0_14) HB1.out (by have := G.out; omega)); have R7 := Aside0.mk (Kd.R_far (p := ⟨b3, 14, none⟩) R7.out (fun k hk => Nat.ne_of_gt hk.1) (.string a0_14)); have R8 := Aside0.mk (Kd.R_far (p := ⟨b3, 14, none⟩) R8.out (fun k hk => Nat.ne_of_gt hk.1) (.string a0_14)); have R10 := Aside0.mk (Kd.R_far (p := ⟨b3, 14, none⟩) R10.out (fun k hk => Nat.ne_of_gt hk.1) (.string a0_14)); have P1 := Aside0.mk (blk_far (p := ⟨b3, 15, none⟩) P1.out (show w.heap.size ≠ b3 by have := G.out; omega) (.int .i64 a0_15)); have P2 := Aside0.mk (blk_far (p := ⟨b3, 15, none⟩) P2.out (show b2 ≠ b3 by have := G.out; omega) (.int .i64 a0_15)); have P3 := Aside0.mk (blk_put (cs' := #[.int .i64 a0_0, .int .i64 a0_1, .int .i64 a0_2, .int .i64 a0_3, .int .i64 a0_4, .int .i64 a0_5, .bool a0_6, .slice B7 s7.length d7, .slice B8 s8.length d8, .int .i64 a0_9, .slice B10 s10.length d10, .int .i64 a0_11, .int .i64 a0_12, .int .i64 a0_13, .string a0_14, .int .i64 a0_15, .int .i64 0]) P3.out 15 (.int .i64 a0_15) rfl); have HB1 := Aside0.mk (below_set (g := b3) (j := 15) (v := .int .i64 a0_15) HB1.out (by have := G.out; omega)); have R7 := Aside0.mk (Kd.R_far (p := ⟨b3, 15, none⟩) R7.out (fun k hk => Nat.ne_of_gt hk.1) (.int .i64 a0_15)); have R8 := Aside0.mk (Kd.R_far (p := ⟨b3, 15, none⟩) R8.out (fun k hk => Nat.ne_of_gt hk.1) (.int .i64 a0_15)); have R10 := Aside0.mk (Kd.R_far (p := ⟨b3, 15, none⟩) R10.out (fun k hk => Nat.ne_of_gt hk.1) (.int .i64 a0_15)); have P1 := Aside0.mk (blk_far (p := ⟨b3, 16, none⟩) P1.out (show w.heap.size ≠ b3 by have := G.out; omega) (.int .i64 a0_16)); have P2 := Aside0.mk (blk_far (p := ⟨b3, 16, none⟩) P2.out (show b2 ≠ b3 by have := G.out; omega) (.int .i64 a0_16)); have P3 := Aside0.mk (blk_put (cs' := #[.int .i64 a0_0, .int .i64 a0_1, .int .i64 a0_2, .int .i64 a0_3, .int .i64 a0_4, .int .i64 a0_5, .bool a0_6, .slice B7 s7.length d7, .slice B8 s8.length d8, .int .i64 a0_9, .slice B10 s10.length d10, .int .i64 a0_11, .int .i64 a0_12, .int .i64 a0_13, .string a0_14, .int .i64 a0_15, .int .i64 a0_16]) P3.out 16 (.int .i64 a0_16) rfl); have HB1 := Aside0.mk (below_set (g := b3) (j := 16) (v := .int .i64 a0_16) HB1.out (by have := G.out; omega)); have R7 := Aside0.mk (Kd.R_far (p := ⟨b3, 16, none⟩) R7.out (fun k hk => Nat.ne_of_gt hk.1) (.int .i64 a0_16)); have R8 := Aside0.mk (Kd.R_far (p := ⟨b3, 16, none⟩) R8.out (fun k hk => Nat.ne_of_gt hk.1) (.int .i64 a0_16)); have R10 := Aside0.mk (Kd.R_far (p := ⟨b3, 16, none⟩) R10.out (fun k hk => Nat.ne_of_gt hk.1) (.int .i64 a0_16)); generalize hW : ((((((W8).setCell ⟨b3, 11, none⟩ (.int .i64 a0_11)).setCell ⟨b3, 12, none⟩ (.int .i64 a0_12)).setCell ⟨b3, 13, none⟩ (.int .i64 a0_13)).setCell ⟨b3, 14, none⟩ (.string a0_14)).setCell ⟨b3, 15, none⟩ (.int .i64 a0_15)).setCell ⟨b3, 16, none⟩ (.int .i64 a0_16) = W9 at P1 P2 P3 HB1 R7 R8 R10 ⊢; clear hW; refine wpList_load_row rfl 33 (.tmp 3) rfl b3 rfl 33 #[.int .i64 a0_0, .int .i64 a0_1, .int .i64 a0_2, .int .i64 a0_3, .int .i64 a0_4, .int .i64 a0_5, .bool a0_6, .slice B7 s7.length d7, .slice B8 s8.length d8, .int .i64 a0_9, .slice B10 s10.length d10, .int .i64 a0_11, .int .i64 a0_12, .int .i64 a0_13, .string a0_14, .int .i64 a0_15, .int .i64 a0_16] (0, 0) _ P3.out hu33 rfl (by kernel_rfl) ?_) | ((with_reducible refine gate_store (t := 33) (p := 2) rfl ?_); refine wpList_store_row rfl 33 (.tmp 2) (.tmp 44) rfl b2 #[.int .i64 a0_0, .int .i64 a0_1, .int .i64 a0_2, .int .i64 a0_3, .int .i64 a0_4, .int .i64 a0_5, .bool a0_6, .slice B7 s7.length d7, .slice B8 s8.length d8, .int .i64 a0_9, .slice B10 s10.length d10, .int .i64 a0_11, .int .i64 a0_12, .int .i64 a0_13, .string a0_14, .int .i64 a0_15, .int .i64 a0_16] rfl rfl 33 #[.int .i64 0, .int .i64 0, .int .i64 0, .int .i64 0, .int .i64 0, .int .i64 0, .bool false, .slice none 0 0, .slice none 0 0, .int .i64 0, .slice none 0 0, .int .i64 0, .int .i64 0, .int .i64 0, .string (⟨#[]⟩ : ByteArray), .int .i64 0, .int .i64 0] P2.out (by kernel_rfl) rfl (by simp [Value.oneCell']) ?_; have P2 := Aside0.mk (setRow_heap W9 b2 _ #[.int .i64 a0_0, .int .i64 a0_1, .int .i64 a0_2, .int .i64 a0_3, .int .i64 a0_4, .int .i64 a0_5, .bool a0_6, .slice B7 s7.length d7, .slice B8 s8.length d8, .int .i64 a0_9, .slice B10 s10.length d10, .int .i64 a0_11, .int .i64 a0_12, .int .i64 a0_13, .string a0_14, .int .i64 a0_15, .int .i64 a0_16] 33 (0, 0) P2.out); generalize hW : W9.setRow b2 #[.int .i64 a0_0, .int .i64 a0_1, .int .i64 a0_2, .int .i64 a0_3, .int .i64 a0_4, .int .i64 a0_5, .bool a0_6, .slice B7 s7.length d7, .slice B8 s8.length d8, .int .i64 a0_9, .slice B10 s10.length d10, .int .i64 a0_11, .int .i64 a0_12, .int .i64 a0_13, .string a0_14, .int .i64 a0_15, .int .i64 a0_16] = W10 at P2 ⊢; have HM : Aside0 (∀ k, b3 < k → W10.heap[k]? = W9.heap[k]?) := ⟨fun k hk => by rw [← hW]; exact setRow_other _ _ _ _ (by have := G.out; omega)⟩; have HB1 : Aside0 (Below w.heap.size w W10) := ⟨Below.trans HB1.out (by rw [← hW]; exact ⟨rfl, rfl, rfl, by simp, fun k hk => setRow_other _ _ _ _ (by have := G.out; omega)⟩)⟩; clear hW))
 refine bodyPost_ret (results_cell_row rfl _ _ b2 33 #[.int .i64 a0_0, .int .i64 a0_1, .int .i64 a0_2, .int .i64 a0_3, .int .i64 a0_4, .int .i64 a0_5, .bool a0_6, .slice B7 s7.length d7, .slice B8 s8.length d8, .int .i64 a0_9, .slice B10 s10.length d10, .int .i64 a0_11, .int .i64 a0_12, .int .i64 a0_13, .string a0_14, .int .i64 a0_15, .int .i64 a0_16] (0, 0) _ rfl P2.out hu33 rfl (by kernel_rfl)) rfl ?_
 have hs : W1.heap.size ≤ W2.heap.size ∧ W2.heap.size ≤ W3.heap.size ∧ W3.heap.size ≤ W4.heap.size ∧ W4.heap.size ≤ W5.heap.size := ⟨S7.out, M2.out, S8.out, M4.out⟩
 exact ⟨_, _, _, rfl, Kd.R_mono (Kd.R_step R7.out (fun k hk _ => HM.out k hk.1)) (fun k hk e => by have := L10.out k e.symm; have := hk.2.2; omega), Kd.R_mono (Kd.R_step R8.out (fun k hk _ => HM.out k hk.1)) (fun _ _ => trivial), Kd.R_mono (Kd.R_step R10.out (fun k hk _ => HM.out k hk.1)) (fun k hk e => by have := (R7.out.1 k e.symm).2.2; have := hk.2.1; omega), HB1.out⟩

end Go.Proofs.Ytbjdnfgalopfiaa.PE
