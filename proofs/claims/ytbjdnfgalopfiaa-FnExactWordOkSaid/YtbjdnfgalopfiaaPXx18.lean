import Derived.Test.YtbjdnfgalopfiaaPXx0
import Derived.Test.YtbjdnfgalopfiaaPXx3
import Derived.Test.YtbjdnfgalopfiaaPXx4
import Derived.Test.YtbjdnfgalopfiaaPXx7
import Derived.Test.YtbjdnfgalopfiaaPXx10
import Derived.Test.YtbjdnfgalopfiaaPXx14
import Derived.Test.YtbjdnfgalopfiaaPXx17
namespace Go.Proofs.Ytbjdnfgalopfiaa.PX
open Go.RowKit Go.Proofs.YtbjdnfgalopfiaaW.PrintWords Go.Proofs.YtbjdnfgalopfiaaW.PrintLast Go.Proofs.YtbjdnfgalopfiaaW.PrintMore
attribute [local go_sem] max2_int min2_int max_two min_two max_three min_three max_four min_four
set_option linter.unusedVariables false
set_option linter.unusedSimpArgs false

def laws_FnExactWordOk.f (k : Nat) (a0_0 : Int) (a0_1 : Int) (a0_2 : Int) (a0_3 : Int) (a0_4 : Int) (a0_5 : Int) (a0_6 : Bool) (l0_7 : List Int) (l0_8 : List (S75)) (a0_9 : Int) (l0_10 : List Int) (a0_11 : Int) (a0_12 : Int) (a0_13 : Int) (a0_14 : ByteArray) (a0_15 : Int) (a0_16 : Int) : Option (Bool) := (laws_szWord.f a0_0 a0_1 a0_2 a0_3 a0_4 a0_5 a0_6 l0_7 l0_8 a0_9 l0_10 a0_11 a0_12 a0_13 a0_14 a0_15 a0_16 1048576).bind fun t40002 => (if t40002 < 0 then (some true) else ((laws_toWord.f k a0_0 a0_1 a0_2 a0_3 a0_4 a0_5 a0_6 l0_7 l0_8 a0_9 l0_10 a0_11 a0_12 a0_13 a0_14 a0_15 a0_16).bind fun bt40003 => ((spec_WordOk.f k bt40003.1 bt40003.2.1 bt40003.2.2.1 bt40003.2.2.2.1 bt40003.2.2.2.2.1 bt40003.2.2.2.2.2.1 bt40003.2.2.2.2.2.2.1 bt40003.2.2.2.2.2.2.2.1 bt40003.2.2.2.2.2.2.2.2.1 bt40003.2.2.2.2.2.2.2.2.2.1 bt40003.2.2.2.2.2.2.2.2.2.2.1 bt40003.2.2.2.2.2.2.2.2.2.2.2.1 bt40003.2.2.2.2.2.2.2.2.2.2.2.2.1 bt40003.2.2.2.2.2.2.2.2.2.2.2.2.2.1 bt40003.2.2.2.2.2.2.2.2.2.2.2.2.2.2.1 bt40003.2.2.2.2.2.2.2.2.2.2.2.2.2.2.2.1 bt40003.2.2.2.2.2.2.2.2.2.2.2.2.2.2.2.2).bind fun t40026 => ((laws_toWord.f k a0_0 a0_1 a0_2 a0_3 a0_4 a0_5 a0_6 l0_7 l0_8 a0_9 l0_10 a0_11 a0_12 a0_13 a0_14 a0_15 a0_16).bind fun bt40027 => ((impl_WordOk.f k bt40027.1 bt40027.2.1 bt40027.2.2.1 bt40027.2.2.2.1 bt40027.2.2.2.2.1 bt40027.2.2.2.2.2.1 bt40027.2.2.2.2.2.2.1 bt40027.2.2.2.2.2.2.2.1 bt40027.2.2.2.2.2.2.2.2.1 bt40027.2.2.2.2.2.2.2.2.2.1 bt40027.2.2.2.2.2.2.2.2.2.2.1 bt40027.2.2.2.2.2.2.2.2.2.2.2.1 bt40027.2.2.2.2.2.2.2.2.2.2.2.2.1 bt40027.2.2.2.2.2.2.2.2.2.2.2.2.2.1 bt40027.2.2.2.2.2.2.2.2.2.2.2.2.2.2.1 bt40027.2.2.2.2.2.2.2.2.2.2.2.2.2.2.2.1 bt40027.2.2.2.2.2.2.2.2.2.2.2.2.2.2.2.2).bind fun t40051 => (if (t40051 != t40026) = true then (some false) else ((laws_toWord.f k a0_0 a0_1 a0_2 a0_3 a0_4 a0_5 a0_6 l0_7 l0_8 a0_9 l0_10 a0_11 a0_12 a0_13 a0_14 a0_15 a0_16).bind fun bt40052 => ((laws_eqWord.f k bt40027.1 bt40027.2.1 bt40027.2.2.1 bt40027.2.2.2.1 bt40027.2.2.2.2.1 bt40027.2.2.2.2.2.1 bt40027.2.2.2.2.2.2.1 bt40027.2.2.2.2.2.2.2.1 bt40027.2.2.2.2.2.2.2.2.1 bt40027.2.2.2.2.2.2.2.2.2.1 bt40027.2.2.2.2.2.2.2.2.2.2.1 bt40027.2.2.2.2.2.2.2.2.2.2.2.1 bt40027.2.2.2.2.2.2.2.2.2.2.2.2.1 bt40027.2.2.2.2.2.2.2.2.2.2.2.2.2.1 bt40027.2.2.2.2.2.2.2.2.2.2.2.2.2.2.1 bt40027.2.2.2.2.2.2.2.2.2.2.2.2.2.2.2.1 bt40027.2.2.2.2.2.2.2.2.2.2.2.2.2.2.2.2 bt40052.1 bt40052.2.1 bt40052.2.2.1 bt40052.2.2.2.1 bt40052.2.2.2.2.1 bt40052.2.2.2.2.2.1 bt40052.2.2.2.2.2.2.1 bt40052.2.2.2.2.2.2.2.1 bt40052.2.2.2.2.2.2.2.2.1 bt40052.2.2.2.2.2.2.2.2.2.1 bt40052.2.2.2.2.2.2.2.2.2.2.1 bt40052.2.2.2.2.2.2.2.2.2.2.2.1 bt40052.2.2.2.2.2.2.2.2.2.2.2.2.1 bt40052.2.2.2.2.2.2.2.2.2.2.2.2.2.1 bt40052.2.2.2.2.2.2.2.2.2.2.2.2.2.2.1 bt40052.2.2.2.2.2.2.2.2.2.2.2.2.2.2.2.1 bt40052.2.2.2.2.2.2.2.2.2.2.2.2.2.2.2.2).bind fun t40075 => (if t40075 = true then (some true) else (some false))))))))))
theorem laws_FnExactWordOk.mono : ∀ a0 a1 a2 a3 a4 a5 a6 a7 a8 a9 a10 a11 a12 a13 a14 a15 a16 k, LeO (laws_FnExactWordOk.f k a0 a1 a2 a3 a4 a5 a6 a7 a8 a9 a10 a11 a12 a13 a14 a15 a16) (laws_FnExactWordOk.f (k + 1) a0 a1 a2 a3 a4 a5 a6 a7 a8 a9 a10 a11 a12 a13 a14 a15 a16) := by
 intro a0 a1 a2 a3 a4 a5 a6 a7 a8 a9 a10 a11 a12 a13 a14 a15 a16 k
 unfold laws_FnExactWordOk.f
 repeat' first
  | (with_reducible exact impl_WordOk.mono _ _ _ _ _ _ _ _ _ _ _ _ _ _ _ _ _ _)
  | (with_reducible exact laws_eqWord.mono _ _ _ _ _ _ _ _ _ _ _ _ _ _ _ _ _ _ _ _ _ _ _ _ _ _ _ _ _ _ _ _ _ _ _)
  | (with_reducible exact laws_toWord.mono _ _ _ _ _ _ _ _ _ _ _ _ _ _ _ _ _ _)
  | (with_reducible exact spec_WordOk.mono _ _ _ _ _ _ _ _ _ _ _ _ _ _ _ _ _ _)
  | (with_reducible exact LeO.refl _)
  | (with_reducible exact LeO.none _)
  | (with_reducible refine LeO.ite ?_ ?_)
  | (with_reducible refine LeO.bind ?_ (fun _ => ?_))
  | exact impl_WordOk.mono _ _ _ _ _ _ _ _ _ _ _ _ _ _ _ _ _ _
  | exact laws_eqWord.mono _ _ _ _ _ _ _ _ _ _ _ _ _ _ _ _ _ _ _ _ _ _ _ _ _ _ _ _ _ _ _ _ _ _ _
  | exact laws_toWord.mono _ _ _ _ _ _ _ _ _ _ _ _ _ _ _ _ _ _
  | exact spec_WordOk.mono _ _ _ _ _ _ _ _ _ _ _ _ _ _ _ _ _ _
  | exact LeO.none _
  | refine LeO.ite ?_ ?_
  | refine LeO.bind ?_ (fun _ => ?_)
theorem ld_ {P : Program} {md : Region.Mode} {ops : Array Oper} {Q : Exit → Act → World → Prop} {S : World → Prop} {ds : List Nat} (i : Nat) (N : Option Tmp) (l' : Array Bool) (b : Nat) (t : TypeId) (x : Operand) (cs : Array Value) (d : TypeDesc) {oi : Oper} {fuel : Nat} {l : Array Bool} {a : Act} {w : World} (hc : takeB md ops ds l l' i = true) (hS : S w)
 (hb : ∀ w, S w → w.heap[b]? = some (.cells cs t (0, 0))) (hu : P.underlying t = some d) (hd : (match d with | .struct _ | .array _ _ => true | _ => false) = true) (hz : (P.info? t).map (·.size) = some cs.size) {a' : Act} (h : wpAnyLast P md ops Q S ds fuel l' a' w)
 (hi : ops[i]? = some oi := by rfl) (hN : oi.dst = N := by rfl) (ho : oi.op = .load t x := by rfl) (hx : a.eval x = .pointer (some ⟨b, 0, none⟩) := by rfl) (hQ : ∀ c a w, Q (.panic c) (a.put oi.dst (.agg cs)) w → Q (.panic c) a w := by exact fun _ _ _ h => h) (hw : Region.wanted oi (yielded ops a.tmps) = true := by rfl)
 (ha : a.put N (.agg cs) = a' := by (simp only [Act.put, List.setIfInBounds_toArray, List.set_cons_zero, List.set_cons_succ, i64_w, i32_w]; rfl)) : wpAnyLast P md ops Q S ds (fuel + 1) l a w :=
 take_ l' hi hN hc hQ (Or.inl ⟨hw, fun w hw' => by
  unfold execOp
  simp only [ho, hx, Instr.loadAt, Instr.sureAddr, Sem.run_bind, Sem.run_pure, Result.andThen_ok, run_loadVar_row w b t t cs (0, 0) d (hb w hw') hu hd hz]⟩) hS ha h
set_option maxHeartbeats 8000000 in
set_option maxRecDepth 100000 in
theorem laws_FnExactWordOk.calls (k : Nat) (a0_0 : Int) (a0_1 : Int) (a0_2 : Int) (a0_3 : Int) (a0_4 : Int) (a0_5 : Int) (a0_6 : Bool) (A0_7 : Option Addr) (c0_7 : Nat) (l0_7 : List Int) (A0_8 : Option Addr) (c0_8 : Nat) (l0_8 : List (S75)) (a0_9 : Int) (A0_10 : Option Addr) (c0_10 : Nat) (l0_10 : List Int) (a0_11 : Int) (a0_12 : Int) (a0_13 : Int) (a0_14 : ByteArray) (a0_15 : Int) (a0_16 : Int) (r : Bool) (w : World) (hr0_7 : Kd.C (Kd.int .i64) w A0_7 l0_7.length l0_7) (hc0_7 : l0_7.length ≤ c0_7) (hr0_8 : Kd.C k75 w A0_8 l0_8.length l0_8) (hc0_8 : l0_8.length ≤ c0_8) (hr0_10 : Kd.C (Kd.int .i64) w A0_10 l0_10.length l0_10) (hc0_10 : l0_10.length ≤ c0_10) (hr_ : r = true) (h : laws_FnExactWordOk.f k a0_0 a0_1 a0_2 a0_3 a0_4 a0_5 a0_6 l0_7 l0_8 a0_9 l0_10 a0_11 a0_12 a0_13 a0_14 a0_15 a0_16 = some r) :
 Calls Try.prog 3 #[.agg #[.int .i64 a0_0, .int .i64 a0_1, .int .i64 a0_2, .int .i64 a0_3, .int .i64 a0_4, .int .i64 a0_5, .bool a0_6, .slice A0_7 l0_7.length c0_7, .slice A0_8 l0_8.length c0_8, .int .i64 a0_9, .slice A0_10 l0_10.length c0_10, .int .i64 a0_11, .int .i64 a0_12, .int .i64 a0_13, .string a0_14, .int .i64 a0_15, .int .i64 a0_16]] w fun e w' => e = .returned (.bool r) ∧ Below w.heap.size w w' := by
  subst hr_
  have hu27 := Try.underlying27
  have hu33 := Try.underlying33
  have HR7 := Aside0.mk hr0_7
  have HR8 := Aside0.mk hr0_8
  have HR10 := Aside0.mk hr0_10
  clear hr0_7 hr0_8 hr0_10
  unfold laws_FnExactWordOk.f at h
  obtain ⟨z, Z, H⟩ := Option.bind_eq_some_iff.mp h
  clear h
  have HZ := Aside0.mk Z
  clear Z
  have HB1 := Aside0.mk (below_alloc (Below.refl w.heap.size w) (.cells #[.int .i64 a0_0, .int .i64 a0_1, .int .i64 a0_2, .int .i64 a0_3, .int .i64 a0_4, .int .i64 a0_5, .bool a0_6, .slice A0_7 l0_7.length c0_7, .slice A0_8 l0_8.length c0_8, .int .i64 a0_9, .slice A0_10 l0_10.length c0_10, .int .i64 a0_11, .int .i64 a0_12, .int .i64 a0_13, .string a0_14, .int .i64 a0_15, .int .i64 a0_16] 27 (0, 0)))
  have P1 := Aside0.mk (blk_new w (.cells #[.int .i64 a0_0, .int .i64 a0_1, .int .i64 a0_2, .int .i64 a0_3, .int .i64 a0_4, .int .i64 a0_5, .bool a0_6, .slice A0_7 l0_7.length c0_7, .slice A0_8 l0_8.length c0_8, .int .i64 a0_9, .slice A0_10 l0_10.length c0_10, .int .i64 a0_11, .int .i64 a0_12, .int .i64 a0_13, .string a0_14, .int .i64 a0_15, .int .i64 a0_16] 27 (0, 0)))
  go_enter Try.func3, Try.ntmps3
  go_wp2_with (fail)
  generalize w.alloc (.cells #[.int .i64 a0_0, .int .i64 a0_1, .int .i64 a0_2, .int .i64 a0_3, .int .i64 a0_4, .int .i64 a0_5, .bool a0_6, .slice A0_7 l0_7.length c0_7, .slice A0_8 l0_8.length c0_8, .int .i64 a0_9, .slice A0_10 l0_10.length c0_10, .int .i64 a0_11, .int .i64 a0_12, .int .i64 a0_13, .string a0_14, .int .i64 a0_15, .int .i64 a0_16] 27 (0, 0)) = W1 at HB1 P1 ⊢
  refine (laws_szWord.calls a0_0 a0_1 a0_2 a0_3 a0_4 a0_5 a0_6 A0_7 c0_7 l0_7 A0_8 c0_8 l0_8 a0_9 A0_10 c0_10 l0_10 a0_11 a0_12 a0_13 a0_14 a0_15 a0_16 1048576 z W1 (Kd.C_below HR7.out HB1.out) hc0_7 (Kd.C_below HR8.out HB1.out) hc0_8 (Kd.C_below HR10.out HB1.out) hc0_10 HZ.out).mono ?_
  rintro e W2 ⟨rfl, hb⟩
  have P1 := Aside0.mk (blk_below P1.out hb)
  have HB1 := Aside0.mk (below_step HB1.out hb)
  clear hb
  by_cases hz : z < 0
  ·have hdz : decide (z < 0) = true := decide_eq_true hz
   clear H hz
   go_wp2_with (fail)
   go_ret
   exact ⟨rfl, HB1.out⟩
  ·have hdz : decide (z < 0) = false := decide_eq_false hz
   rw [if_neg hz] at H
   clear hz
   replace H := Option.bind_eq_some_iff.mp H
   obtain ⟨⟨x0, x1, x2, x3, x4, x5, x6, x7, x8, x9, x10, x11, x12, x13, x14, x15, x16⟩, E1, H⟩ := H
   replace H := Option.bind_eq_some_iff.mp H
   obtain ⟨u, E2, H⟩ := H
   replace H := Option.bind_eq_some_iff.mp H
   obtain ⟨y, E3, H⟩ := H
   obtain rfl := Option.some.inj (E3.symm.trans E1)
   replace H := Option.bind_eq_some_iff.mp H
   obtain ⟨v, E4, H⟩ := H
   by_cases hq : (v != u) = true
   ·rw [if_pos hq] at H
    cases H
   rw [if_neg hq] at H
   replace H := Option.bind_eq_some_iff.mp H
   obtain ⟨y, E5, H⟩ := H
   obtain rfl := Option.some.inj (E5.symm.trans E1)
   replace H := Option.bind_eq_some_iff.mp H
   obtain ⟨q, E6, H⟩ := H
   have hv : v = u := by cases u <;> cases v <;> simp_all
   have hqt : q = true := by cases q <;> first | rfl | (exact absurd H (by simp))
   subst hv hqt
   replace E1 := Aside0.mk (show laws_toWord.f k a0_0 a0_1 a0_2 a0_3 a0_4 a0_5 a0_6 l0_7 l0_8 a0_9 l0_10 a0_11 a0_12 a0_13 a0_14 a0_15 a0_16 = some (x0, x1, x2, x3, x4, x5, x6, x7, x8, x9, x10, x11, x12, x13, x14, x15, x16) from E1)
   replace E2 := Aside0.mk (show spec_WordOk.f k x0 x1 x2 x3 x4 x5 x6 x7 x8 x9 x10 x11 x12 x13 x14 x15 x16 = some v from E2)
   replace E4 := Aside0.mk (show impl_WordOk.f k x0 x1 x2 x3 x4 x5 x6 x7 x8 x9 x10 x11 x12 x13 x14 x15 x16 = some v from E4)
   replace E6 := Aside0.mk (show laws_eqWord.f k x0 x1 x2 x3 x4 x5 x6 x7 x8 x9 x10 x11 x12 x13 x14 x15 x16 x0 x1 x2 x3 x4 x5 x6 x7 x8 x9 x10 x11 x12 x13 x14 x15 x16 = some true from E6)
   clear H hq E3 E5
   go_wp2_with (((with_reducible refine gate_dst (N := 12) rfl ?_); (refine wpList_load_row rfl 27 (.tmp 1) rfl w.heap.size rfl 27 #[.int .i64 a0_0, .int .i64 a0_1, .int .i64 a0_2, .int .i64 a0_3, .int .i64 a0_4, .int .i64 a0_5, .bool a0_6, .slice A0_7 l0_7.length c0_7, .slice A0_8 l0_8.length c0_8, .int .i64 a0_9, .slice A0_10 l0_10.length c0_10, .int .i64 a0_11, .int .i64 a0_12, .int .i64 a0_13, .string a0_14, .int .i64 a0_15, .int .i64 a0_16] (0, 0) _ P1.out hu27 rfl (by kernel_rfl) ?_)))
   refine (laws_toWord.calls k a0_0 a0_1 a0_2 a0_3 a0_4 a0_5 a0_6 A0_7 c0_7 l0_7 A0_8 c0_8 l0_8 a0_9 A0_10 c0_10 l0_10 a0_11 a0_12 a0_13 a0_14 a0_15 a0_16 x0 x1 x2 x3 x4 x5 x6 x7 x8 x9 x10 x11 x12 x13 x14 x15 x16 W2 (Kd.C_below HR7.out HB1.out) hc0_7 (Kd.C_below HR8.out HB1.out) hc0_8 (Kd.C_below HR10.out HB1.out) hc0_10 E1.out).mono ?_
   rintro e W3 ⟨v7, v8, v10, rfl, r7, r8, r10, hb⟩
   obtain ⟨A7, b7, e7⟩ := Kd.R_slice r7
   obtain ⟨A8, b8, e8⟩ := Kd.R_slice r8
   obtain ⟨A10, b10, e10⟩ := Kd.R_slice r10
   subst e7 e8 e10
   have AR7 := Aside0.mk (Kd.R_reads' r7).2
   have AR8 := Aside0.mk (Kd.R_reads' r8).2
   have AR10 := Aside0.mk (Kd.R_reads' r10).2
   have P1 := Aside0.mk (blk_below P1.out hb)
   have HB1 := Aside0.mk (below_step HB1.out hb)
   clear hb
   clear r7 r8 r10
   go_wp2_with (fail)
   refine (spec_WordOk.calls k x0 x1 x2 x3 x4 x5 x6 A7 b7 x7 A8 b8 x8 x9 A10 b10 x10 x11 x12 x13 x14 x15 x16 v W3 AR7.out.2 AR7.out.1 AR8.out.2 AR8.out.1 AR10.out.2 AR10.out.1 E2.out).mono ?_
   rintro e W4 ⟨rfl, hb⟩
   have P1 := Aside0.mk (blk_below P1.out hb)
   have HB1 := Aside0.mk (below_step HB1.out hb)
   clear hb
   go_wp2_with (((with_reducible refine gate_dst (N := 15) rfl ?_); (refine wpList_load_row rfl 27 (.tmp 1) rfl w.heap.size rfl 27 #[.int .i64 a0_0, .int .i64 a0_1, .int .i64 a0_2, .int .i64 a0_3, .int .i64 a0_4, .int .i64 a0_5, .bool a0_6, .slice A0_7 l0_7.length c0_7, .slice A0_8 l0_8.length c0_8, .int .i64 a0_9, .slice A0_10 l0_10.length c0_10, .int .i64 a0_11, .int .i64 a0_12, .int .i64 a0_13, .string a0_14, .int .i64 a0_15, .int .i64 a0_16] (0, 0) _ P1.out hu27 rfl (by kernel_rfl) ?_)))
   refine (laws_toWord.calls k a0_0 a0_1 a0_2 a0_3 a0_4 a0_5 a0_6 A0_7 c0_7 l0_7 A0_8 c0_8 l0_8 a0_9 A0_10 c0_10 l0_10 a0_11 a0_12 a0_13 a0_14 a0_15 a0_16 x0 x1 x2 x3 x4 x5 x6 x7 x8 x9 x10 x11 x12 x13 x14 x15 x16 W4 (Kd.C_below HR7.out HB1.out) hc0_7 (Kd.C_below HR8.out HB1.out) hc0_8 (Kd.C_below HR10.out HB1.out) hc0_10 E1.out).mono ?_
   rintro e W5 ⟨v7, v8, v10, rfl, r7, r8, r10, hb⟩
   obtain ⟨B7, c7, e7⟩ := Kd.R_slice r7
   obtain ⟨B8, c8, e8⟩ := Kd.R_slice r8
   obtain ⟨B10, c10, e10⟩ := Kd.R_slice r10
   subst e7 e8 e10
   have BR7 := Aside0.mk (Kd.R_reads' r7).2
   have BR8 := Aside0.mk (Kd.R_reads' r8).2
   have BR10 := Aside0.mk (Kd.R_reads' r10).2
   have P1 := Aside0.mk (blk_below P1.out hb)
   have HB1 := Aside0.mk (below_step HB1.out hb)
   clear hb
   clear r7 r8 r10
   go_wp2_with (first | ((with_reducible refine gate_dst (N := 5) rfl ?_); (refine box_event ?hg (N := 5) ?hd (cs := #[.int .i64 0, .int .i64 0, .int .i64 0, .int .i64 0, .int .i64 0, .int .i64 0, .bool false, .slice none 0 0, .slice none 0 0, .int .i64 0, .slice none 0 0, .int .i64 0, .int .i64 0, .int .i64 0, .string (⟨#[]⟩ : ByteArray), .int .i64 0, .int .i64 0]) (t := 33) ?hr ?_; (case hd => rfl); (case hg => rfl); (case hr => first | (go_simp; done) | (go_simp; rfl)); intro b5 hb5 W6 hbox hA; have HA := Aside0.mk hA; have P5 := Aside0.mk hbox; have HB5 := Aside0.mk hb5; clear hA hbox hb5)) | ((with_reducible refine gate_store (t := 33) (p := 5) rfl ?_); (refine wpList_store_row rfl 33 (.tmp 5) (.tmp 16) rfl b5 #[.int .i64 x0, .int .i64 x1, .int .i64 x2, .int .i64 x3, .int .i64 x4, .int .i64 x5, .bool x6, .slice B7 x7.length c7, .slice B8 x8.length c8, .int .i64 x9, .slice B10 x10.length c10, .int .i64 x11, .int .i64 x12, .int .i64 x13, .string x14, .int .i64 x15, .int .i64 x16] rfl rfl 33 #[.int .i64 0, .int .i64 0, .int .i64 0, .int .i64 0, .int .i64 0, .int .i64 0, .bool false, .slice none 0 0, .slice none 0 0, .int .i64 0, .slice none 0 0, .int .i64 0, .int .i64 0, .int .i64 0, .string (⟨#[]⟩ : ByteArray), .int .i64 0, .int .i64 0] P5.out (by kernel_rfl) rfl (by simp [Value.oneCell']) ?_; replace HA : Aside0 (Below W5.heap.size W5 (W6.setRow b5 #[.int .i64 x0, .int .i64 x1, .int .i64 x2, .int .i64 x3, .int .i64 x4, .int .i64 x5, .bool x6, .slice B7 x7.length c7, .slice B8 x8.length c8, .int .i64 x9, .slice B10 x10.length c10, .int .i64 x11, .int .i64 x12, .int .i64 x13, .string x14, .int .i64 x15, .int .i64 x16])) := ⟨HA.out.trans ⟨rfl, rfl, rfl, by simp, fun k hk => setRow_other _ _ _ _ (by have := HB5.out; omega)⟩⟩; replace P5 := Aside0.mk (setRow_heap W6 b5 _ #[.int .i64 x0, .int .i64 x1, .int .i64 x2, .int .i64 x3, .int .i64 x4, .int .i64 x5, .bool x6, .slice B7 x7.length c7, .slice B8 x8.length c8, .int .i64 x9, .slice B10 x10.length c10, .int .i64 x11, .int .i64 x12, .int .i64 x13, .string x14, .int .i64 x15, .int .i64 x16] 33 (0, 0) P5.out); generalize W6.setRow b5 #[.int .i64 x0, .int .i64 x1, .int .i64 x2, .int .i64 x3, .int .i64 x4, .int .i64 x5, .bool x6, .slice B7 x7.length c7, .slice B8 x8.length c8, .int .i64 x9, .slice B10 x10.length c10, .int .i64 x11, .int .i64 x12, .int .i64 x13, .string x14, .int .i64 x15, .int .i64 x16] = W7 at HA P5 ⊢)) | ((with_reducible refine gate_dst (N := 17) rfl ?_); (refine wpList_load_row rfl 33 (.tmp 5) rfl b5 rfl 33 #[.int .i64 x0, .int .i64 x1, .int .i64 x2, .int .i64 x3, .int .i64 x4, .int .i64 x5, .bool x6, .slice B7 x7.length c7, .slice B8 x8.length c8, .int .i64 x9, .slice B10 x10.length c10, .int .i64 x11, .int .i64 x12, .int .i64 x13, .string x14, .int .i64 x15, .int .i64 x16] (0, 0) _ P5.out hu33 rfl (by kernel_rfl) ?_)))
   have P1 := Aside0.mk (blk_below P1.out HA.out)
   have HB1 := Aside0.mk (below_step HB1.out HA.out)
   have BR7 := Aside0.mk (And.intro BR7.out.1 (Kd.C_below BR7.out.2 HA.out))
   have BR8 := Aside0.mk (And.intro BR8.out.1 (Kd.C_below BR8.out.2 HA.out))
   have BR10 := Aside0.mk (And.intro BR10.out.1 (Kd.C_below BR10.out.2 HA.out))
   clear HA HB5
   refine (impl_WordOk.calls k x0 x1 x2 x3 x4 x5 x6 B7 c7 x7 B8 c8 x8 x9 B10 c10 x10 x11 x12 x13 x14 x15 x16 v W7 BR7.out.2 BR7.out.1 BR8.out.2 BR8.out.1 BR10.out.2 BR10.out.1 E4.out).mono ?_
   rintro e W8 ⟨rfl, hb⟩
   have P1 := Aside0.mk (blk_below P1.out hb)
   have P5 := Aside0.mk (blk_below P5.out hb)
   have BR7 := Aside0.mk (And.intro BR7.out.1 (Kd.C_below BR7.out.2 hb))
   have BR8 := Aside0.mk (And.intro BR8.out.1 (Kd.C_below BR8.out.2 hb))
   have BR10 := Aside0.mk (And.intro BR10.out.1 (Kd.C_below BR10.out.2 hb))
   have HB1 := Aside0.mk (below_step HB1.out hb)
   clear hb
   have hvv : (v != v) = false := by simp
   go_wp2_with (fail)
   have P1 := Aside0.mk (blk_drew P1.out)
   have P5 := Aside0.mk (blk_drew P5.out)
   have HB1 := Aside0.mk (below_drew1 HB1.out)
   have BR7 := Aside0.mk (And.intro BR7.out.1 (Kd.C_drew BR7.out.2))
   have BR8 := Aside0.mk (And.intro BR8.out.1 (Kd.C_drew BR8.out.2))
   have BR10 := Aside0.mk (And.intro BR10.out.1 (Kd.C_drew BR10.out.2))
   refine start_ (n := 5) (S := fun w' => w'.heap[b5]? = some (.cells #[.int .i64 x0, .int .i64 x1, .int .i64 x2, .int .i64 x3, .int .i64 x4, .int .i64 x5, .bool x6, .slice B7 x7.length c7, .slice B8 x8.length c8, .int .i64 x9, .slice B10 x10.length c10, .int .i64 x11, .int .i64 x12, .int .i64 x13, .string x14, .int .i64 x15, .int .i64 x16] 33 (0, 0)) ∧ w'.heap[w.heap.size]? = some (.cells #[.int .i64 a0_0, .int .i64 a0_1, .int .i64 a0_2, .int .i64 a0_3, .int .i64 a0_4, .int .i64 a0_5, .bool a0_6, .slice A0_7 l0_7.length c0_7, .slice A0_8 l0_8.length c0_8, .int .i64 a0_9, .slice A0_10 l0_10.length c0_10, .int .i64 a0_11, .int .i64 a0_12, .int .i64 a0_13, .string a0_14, .int .i64 a0_15, .int .i64 a0_16] 27 (0, 0))) (ds := []) (bt_ 5 0) (by kernel_rfl) rfl rfl ⟨P5.out, P1.out⟩ (fun hHeld => ?_)
   generalize W8.drew = W9 at P1 P5 HB1 BR7 BR8 BR10 hHeld ⊢
   refine ld_ 0 (some 22) (bt_ 5 1) b5 33 (.tmp 5) #[.int .i64 x0, .int .i64 x1, .int .i64 x2, .int .i64 x3, .int .i64 x4, .int .i64 x5, .bool x6, .slice B7 x7.length c7, .slice B8 x8.length c8, .int .i64 x9, .slice B10 x10.length c10, .int .i64 x11, .int .i64 x12, .int .i64 x13, .string x14, .int .i64 x15, .int .i64 x16] _ (by kernel_rfl) hHeld (fun _ h_ => h_.1) hu33 rfl (by kernel_rfl) ?_
   refine ld_ 1 (some 23) (bt_ 5 3) w.heap.size 27 (.tmp 1) #[.int .i64 a0_0, .int .i64 a0_1, .int .i64 a0_2, .int .i64 a0_3, .int .i64 a0_4, .int .i64 a0_5, .bool a0_6, .slice A0_7 l0_7.length c0_7, .slice A0_8 l0_8.length c0_8, .int .i64 a0_9, .slice A0_10 l0_10.length c0_10, .int .i64 a0_11, .int .i64 a0_12, .int .i64 a0_13, .string a0_14, .int .i64 a0_15, .int .i64 a0_16] _ (by kernel_rfl) hHeld (fun _ h_ => h_.2) hu27 rfl (by kernel_rfl) ?_
   refine one_ (i := 2) (N := some 24) (bt_ 5 7) rfl rfl (by kernel_rfl) (by decide) (fun K hK => ?_)
   refine goes_ Try.func8 (by kernel_rfl) rfl #[.agg #[.int .i64 a0_0, .int .i64 a0_1, .int .i64 a0_2, .int .i64 a0_3, .int .i64 a0_4, .int .i64 a0_5, .bool a0_6, .slice A0_7 l0_7.length c0_7, .slice A0_8 l0_8.length c0_8, .int .i64 a0_9, .slice A0_10 l0_10.length c0_10, .int .i64 a0_11, .int .i64 a0_12, .int .i64 a0_13, .string a0_14, .int .i64 a0_15, .int .i64 a0_16]] (by rfl) rfl rfl (by simp only [List.map_toArray, List.map_cons, List.map_nil]; rfl) ?_
   refine (laws_toWord.calls k a0_0 a0_1 a0_2 a0_3 a0_4 a0_5 a0_6 A0_7 c0_7 l0_7 A0_8 c0_8 l0_8 a0_9 A0_10 c0_10 l0_10 a0_11 a0_12 a0_13 a0_14 a0_15 a0_16 x0 x1 x2 x3 x4 x5 x6 x7 x8 x9 x10 x11 x12 x13 x14 x15 x16 W9 (Kd.C_below HR7.out HB1.out) hc0_7 (Kd.C_below HR8.out HB1.out) hc0_8 (Kd.C_below HR10.out HB1.out) hc0_10 E1.out).mono ?_
   rintro e W10 ⟨v7, v8, v10, rfl, r7, r8, r10, hb⟩
   obtain ⟨D7, f7, e7⟩ := Kd.R_slice r7
   obtain ⟨D8, f8, e8⟩ := Kd.R_slice r8
   obtain ⟨D10, f10, e10⟩ := Kd.R_slice r10
   subst e7 e8 e10
   have DR7 := Aside0.mk (Kd.R_reads' r7).2
   have DR8 := Aside0.mk (Kd.R_reads' r8).2
   have DR10 := Aside0.mk (Kd.R_reads' r10).2
   have P1 := Aside0.mk (blk_below P1.out hb)
   have P5 := Aside0.mk (blk_below P5.out hb)
   have BR7 := Aside0.mk (And.intro BR7.out.1 (Kd.C_below BR7.out.2 hb))
   have BR8 := Aside0.mk (And.intro BR8.out.1 (Kd.C_below BR8.out.2 hb))
   have BR10 := Aside0.mk (And.intro BR10.out.1 (Kd.C_below BR10.out.2 hb))
   have HB1 := Aside0.mk (below_step HB1.out hb)
   clear hb
   clear r7 r8 r10
   refine ⟨_, rfl, ?_⟩
   refine hK.out _ _ ⟨P5.out, P1.out⟩ (fun hHeld => ?_)
   clear hK K
   refine norm_ (a' := ?_) ?_ ?_
   rotate_left
   ·show Act.put _ (some 24) _ = _
    simp only [Act.put, List.setIfInBounds_toArray, List.set_cons_zero, List.set_cons_succ, i64_w, i32_w]
    rfl
   refine one_ (i := 3) (N := some 25) (bt_ 5 15) rfl rfl (by kernel_rfl) (by decide) (fun K hK => ?_)
   refine goes_ Try.func10 (by kernel_rfl) rfl #[.agg #[.int .i64 x0, .int .i64 x1, .int .i64 x2, .int .i64 x3, .int .i64 x4, .int .i64 x5, .bool x6, .slice B7 x7.length c7, .slice B8 x8.length c8, .int .i64 x9, .slice B10 x10.length c10, .int .i64 x11, .int .i64 x12, .int .i64 x13, .string x14, .int .i64 x15, .int .i64 x16], .agg #[.int .i64 x0, .int .i64 x1, .int .i64 x2, .int .i64 x3, .int .i64 x4, .int .i64 x5, .bool x6, .slice D7 x7.length f7, .slice D8 x8.length f8, .int .i64 x9, .slice D10 x10.length f10, .int .i64 x11, .int .i64 x12, .int .i64 x13, .string x14, .int .i64 x15, .int .i64 x16]] (by rfl) rfl rfl (by simp only [List.map_toArray, List.map_cons, List.map_nil]; rfl) ?_
   refine (laws_eqWord.calls k x0 x1 x2 x3 x4 x5 x6 B7 c7 x7 B8 c8 x8 x9 B10 c10 x10 x11 x12 x13 x14 x15 x16 x0 x1 x2 x3 x4 x5 x6 D7 f7 x7 D8 f8 x8 x9 D10 f10 x10 x11 x12 x13 x14 x15 x16 true W10 BR7.out.2 BR7.out.1 BR8.out.2 BR8.out.1 BR10.out.2 BR10.out.1 DR7.out.2 DR7.out.1 DR8.out.2 DR8.out.1 DR10.out.2 DR10.out.1 E6.out).mono ?_
   rintro e W11 ⟨rfl, hb⟩
   have P1 := Aside0.mk (blk_below P1.out hb)
   have P5 := Aside0.mk (blk_below P5.out hb)
   have HB1 := Aside0.mk (below_step HB1.out hb)
   clear hb
   refine ⟨_, rfl, ?_⟩
   refine hK.out _ _ ⟨P5.out, P1.out⟩ (fun hHeld => ?_)
   clear hK K
   refine norm_ (a' := ?_) ?_ ?_
   rotate_left
   ·show Act.put _ (some 25) _ = _
    simp only [Act.put, List.setIfInBounds_toArray, List.set_cons_zero, List.set_cons_succ, i64_w, i32_w]
    rfl
   refine pu_ 4 (some 26) (bt_ 5 31) (by kernel_rfl) ?_
   refine done_ (by kernel_rfl) ?_
   go_wp2_with (fail)
   go_ret
   exact ⟨rfl, HB1.out⟩
def B75 (x : S75) : Prop := ((Lit.int .i64 x.f0).wf = true) ∧ ((Lit.int .i64 x.f1).wf = true)
theorem rd75_ (W : World) : RdOf Try.prog W k75 75 B75 := by
 intro H enc fuel cs y h
 obtain ⟨xs, n, _, _, hlen, hxl, hg⟩ := DataW.trod_struct Try.underlying75 h
 have hlen : cs.length = 2 := hlen.trans (by kernel_rfl)
 have hxl : xs.length = 2 := hxl
 obtain ⟨y0, e0⟩ := nth_some (j := 0) hxl (by omega)
 have g0 : DataW.trod enc Try.prog W 0 (fun _ => true) true n 3 ((cs.drop 0).take (Try.prog.cellsOf 3)) = xs[0]? := hg 0 _ rfl
 have z0 : Try.prog.cellsOf 3 = 1 := by kernel_rfl
 rw [z0, e0] at g0
 obtain ⟨x0, k0_, b0_⟩ := (RdOf.int Try.underlying3) enc n _ _ g0
 obtain ⟨y1, e1⟩ := nth_some (j := 1) hxl (by omega)
 have g1 : DataW.trod enc Try.prog W 0 (fun _ => true) true n 3 ((cs.drop 1).take (Try.prog.cellsOf 3)) = xs[1]? := hg 1 _ rfl
 have z1 : Try.prog.cellsOf 3 = 1 := by kernel_rfl
 rw [z1, e1] at g1
 obtain ⟨x1, k1_, b1_⟩ := (RdOf.int Try.underlying3) enc n _ _ g1
 have hk := (seg_pair 0 1 1 k0_ k1_)
 rw [seg_all hlen] at hk
 exact ⟨⟨x0, x1⟩, hk, b0_, b1_⟩
def B25 (x : S25) : Prop := ((Lit.int .i64 x.f0).wf = true) ∧ ((Lit.int .i64 x.f1).wf = true) ∧ ((Lit.int .i64 x.f2).wf = true) ∧ (x.f3.size ≤ maxLen) ∧ ((Lit.int .i64 x.f4).wf = true) ∧ ((Lit.int .i64 x.f5).wf = true)
theorem rd25_ (W : World) : RdOf Try.prog W k25 25 B25 := by
 intro H enc fuel cs y h
 obtain ⟨xs, n, _, _, hlen, hxl, hg⟩ := DataW.trod_struct Try.underlying25 h
 have hlen : cs.length = 6 := hlen.trans (by kernel_rfl)
 have hxl : xs.length = 6 := hxl
 obtain ⟨y0, e0⟩ := nth_some (j := 0) hxl (by omega)
 have g0 : DataW.trod enc Try.prog W 0 (fun _ => true) true n 3 ((cs.drop 0).take (Try.prog.cellsOf 3)) = xs[0]? := hg 0 _ rfl
 have z0 : Try.prog.cellsOf 3 = 1 := by kernel_rfl
 rw [z0, e0] at g0
 obtain ⟨x0, k0_, b0_⟩ := (RdOf.int Try.underlying3) enc n _ _ g0
 obtain ⟨y1, e1⟩ := nth_some (j := 1) hxl (by omega)
 have g1 : DataW.trod enc Try.prog W 0 (fun _ => true) true n 3 ((cs.drop 1).take (Try.prog.cellsOf 3)) = xs[1]? := hg 1 _ rfl
 have z1 : Try.prog.cellsOf 3 = 1 := by kernel_rfl
 rw [z1, e1] at g1
 obtain ⟨x1, k1_, b1_⟩ := (RdOf.int Try.underlying3) enc n _ _ g1
 obtain ⟨y2, e2⟩ := nth_some (j := 2) hxl (by omega)
 have g2 : DataW.trod enc Try.prog W 0 (fun _ => true) true n 3 ((cs.drop 2).take (Try.prog.cellsOf 3)) = xs[2]? := hg 2 _ rfl
 have z2 : Try.prog.cellsOf 3 = 1 := by kernel_rfl
 rw [z2, e2] at g2
 obtain ⟨x2, k2_, b2_⟩ := (RdOf.int Try.underlying3) enc n _ _ g2
 obtain ⟨y3, e3⟩ := nth_some (j := 3) hxl (by omega)
 have g3 : DataW.trod enc Try.prog W 0 (fun _ => true) true n 9 ((cs.drop 3).take (Try.prog.cellsOf 9)) = xs[3]? := hg 3 _ rfl
 have z3 : Try.prog.cellsOf 9 = 1 := by kernel_rfl
 rw [z3, e3] at g3
 obtain ⟨x3, k3_, b3_⟩ := (RdOf.string Try.underlying9) enc n _ _ g3
 obtain ⟨y4, e4⟩ := nth_some (j := 4) hxl (by omega)
 have g4 : DataW.trod enc Try.prog W 0 (fun _ => true) true n 3 ((cs.drop 4).take (Try.prog.cellsOf 3)) = xs[4]? := hg 4 _ rfl
 have z4 : Try.prog.cellsOf 3 = 1 := by kernel_rfl
 rw [z4, e4] at g4
 obtain ⟨x4, k4_, b4_⟩ := (RdOf.int Try.underlying3) enc n _ _ g4
 obtain ⟨y5, e5⟩ := nth_some (j := 5) hxl (by omega)
 have g5 : DataW.trod enc Try.prog W 0 (fun _ => true) true n 3 ((cs.drop 5).take (Try.prog.cellsOf 3)) = xs[5]? := hg 5 _ rfl
 have z5 : Try.prog.cellsOf 3 = 1 := by kernel_rfl
 rw [z5, e5] at g5
 obtain ⟨x5, k5_, b5_⟩ := (RdOf.int Try.underlying3) enc n _ _ g5
 have hk := (seg_pair 0 1 5 k0_ (seg_pair 1 1 4 k1_ (seg_pair 2 1 3 k2_ (seg_pair 3 1 2 k3_ (seg_pair 4 1 1 k4_ k5_)))))
 rw [seg_all hlen] at hk
 exact ⟨⟨x0, x1, x2, x3, x4, x5⟩, hk, b0_, b1_, b2_, b3_, b4_, b5_⟩
def B27 (x : S27) : Prop := ((Lit.int .i64 x.f0).wf = true) ∧ ((Lit.int .i64 x.f1).wf = true) ∧ ((Lit.int .i64 x.f2).wf = true) ∧ ((Lit.int .i64 x.f3).wf = true) ∧ ((Lit.int .i64 x.f4).wf = true) ∧ ((Lit.int .i64 x.f5).wf = true) ∧ (True) ∧ ((x.f7.length ≤ maxLen ∧ ∀ y_ ∈ x.f7, (Lit.int .i64 y_).wf = true)) ∧ ((x.f8.length ≤ maxLen ∧ ∀ y_ ∈ x.f8, B75 y_)) ∧ ((Lit.int .i64 x.f9).wf = true) ∧ ((x.f10.length ≤ maxLen ∧ ∀ y_ ∈ x.f10, (Lit.int .i64 y_).wf = true)) ∧ (B25 x.f11)
theorem rd27_ (W : World) : RdOf Try.prog W k27 27 B27 := by
 intro H enc fuel cs y h
 obtain ⟨xs, n, _, _, hlen, hxl, hg⟩ := DataW.trod_struct Try.underlying27 h
 have hlen : cs.length = 17 := hlen.trans (by kernel_rfl)
 have hxl : xs.length = 12 := hxl
 obtain ⟨y0, e0⟩ := nth_some (j := 0) hxl (by omega)
 have g0 : DataW.trod enc Try.prog W 0 (fun _ => true) true n 3 ((cs.drop 0).take (Try.prog.cellsOf 3)) = xs[0]? := hg 0 _ rfl
 have z0 : Try.prog.cellsOf 3 = 1 := by kernel_rfl
 rw [z0, e0] at g0
 obtain ⟨x0, k0_, b0_⟩ := (RdOf.int Try.underlying3) enc n _ _ g0
 obtain ⟨y1, e1⟩ := nth_some (j := 1) hxl (by omega)
 have g1 : DataW.trod enc Try.prog W 0 (fun _ => true) true n 3 ((cs.drop 1).take (Try.prog.cellsOf 3)) = xs[1]? := hg 1 _ rfl
 have z1 : Try.prog.cellsOf 3 = 1 := by kernel_rfl
 rw [z1, e1] at g1
 obtain ⟨x1, k1_, b1_⟩ := (RdOf.int Try.underlying3) enc n _ _ g1
 obtain ⟨y2, e2⟩ := nth_some (j := 2) hxl (by omega)
 have g2 : DataW.trod enc Try.prog W 0 (fun _ => true) true n 3 ((cs.drop 2).take (Try.prog.cellsOf 3)) = xs[2]? := hg 2 _ rfl
 have z2 : Try.prog.cellsOf 3 = 1 := by kernel_rfl
 rw [z2, e2] at g2
 obtain ⟨x2, k2_, b2_⟩ := (RdOf.int Try.underlying3) enc n _ _ g2
 obtain ⟨y3, e3⟩ := nth_some (j := 3) hxl (by omega)
 have g3 : DataW.trod enc Try.prog W 0 (fun _ => true) true n 3 ((cs.drop 3).take (Try.prog.cellsOf 3)) = xs[3]? := hg 3 _ rfl
 have z3 : Try.prog.cellsOf 3 = 1 := by kernel_rfl
 rw [z3, e3] at g3
 obtain ⟨x3, k3_, b3_⟩ := (RdOf.int Try.underlying3) enc n _ _ g3
 obtain ⟨y4, e4⟩ := nth_some (j := 4) hxl (by omega)
 have g4 : DataW.trod enc Try.prog W 0 (fun _ => true) true n 3 ((cs.drop 4).take (Try.prog.cellsOf 3)) = xs[4]? := hg 4 _ rfl
 have z4 : Try.prog.cellsOf 3 = 1 := by kernel_rfl
 rw [z4, e4] at g4
 obtain ⟨x4, k4_, b4_⟩ := (RdOf.int Try.underlying3) enc n _ _ g4
 obtain ⟨y5, e5⟩ := nth_some (j := 5) hxl (by omega)
 have g5 : DataW.trod enc Try.prog W 0 (fun _ => true) true n 3 ((cs.drop 5).take (Try.prog.cellsOf 3)) = xs[5]? := hg 5 _ rfl
 have z5 : Try.prog.cellsOf 3 = 1 := by kernel_rfl
 rw [z5, e5] at g5
 obtain ⟨x5, k5_, b5_⟩ := (RdOf.int Try.underlying3) enc n _ _ g5
 obtain ⟨y6, e6⟩ := nth_some (j := 6) hxl (by omega)
 have g6 : DataW.trod enc Try.prog W 0 (fun _ => true) true n 4 ((cs.drop 6).take (Try.prog.cellsOf 4)) = xs[6]? := hg 6 _ rfl
 have z6 : Try.prog.cellsOf 4 = 1 := by kernel_rfl
 rw [z6, e6] at g6
 obtain ⟨x6, k6_, b6_⟩ := (RdOf.bool Try.underlying4) enc n _ _ g6
 obtain ⟨y7, e7⟩ := nth_some (j := 7) hxl (by omega)
 have g7 : DataW.trod enc Try.prog W 0 (fun _ => true) true n 22 ((cs.drop 7).take (Try.prog.cellsOf 22)) = xs[7]? := hg 7 _ rfl
 have z7 : Try.prog.cellsOf 22 = 1 := by kernel_rfl
 rw [z7, e7] at g7
 obtain ⟨x7, k7_, b7_⟩ := (RdOf.slice Try.underlying22 (by kernel_rfl) (RdOf.int Try.underlying3)) enc n _ _ g7
 obtain ⟨y8, e8⟩ := nth_some (j := 8) hxl (by omega)
 have g8 : DataW.trod enc Try.prog W 0 (fun _ => true) true n 23 ((cs.drop 8).take (Try.prog.cellsOf 23)) = xs[8]? := hg 8 _ rfl
 have z8 : Try.prog.cellsOf 23 = 1 := by kernel_rfl
 rw [z8, e8] at g8
 obtain ⟨x8, k8_, b8_⟩ := (RdOf.slice Try.underlying23 (by kernel_rfl) (rd75_ W)) enc n _ _ g8
 obtain ⟨y9, e9⟩ := nth_some (j := 9) hxl (by omega)
 have g9 : DataW.trod enc Try.prog W 0 (fun _ => true) true n 3 ((cs.drop 9).take (Try.prog.cellsOf 3)) = xs[9]? := hg 9 _ rfl
 have z9 : Try.prog.cellsOf 3 = 1 := by kernel_rfl
 rw [z9, e9] at g9
 obtain ⟨x9, k9_, b9_⟩ := (RdOf.int Try.underlying3) enc n _ _ g9
 obtain ⟨y10, e10⟩ := nth_some (j := 10) hxl (by omega)
 have g10 : DataW.trod enc Try.prog W 0 (fun _ => true) true n 22 ((cs.drop 10).take (Try.prog.cellsOf 22)) = xs[10]? := hg 10 _ rfl
 have z10 : Try.prog.cellsOf 22 = 1 := by kernel_rfl
 rw [z10, e10] at g10
 obtain ⟨x10, k10_, b10_⟩ := (RdOf.slice Try.underlying22 (by kernel_rfl) (RdOf.int Try.underlying3)) enc n _ _ g10
 obtain ⟨y11, e11⟩ := nth_some (j := 11) hxl (by omega)
 have g11 : DataW.trod enc Try.prog W 0 (fun _ => true) true n 25 ((cs.drop 11).take (Try.prog.cellsOf 25)) = xs[11]? := hg 11 _ rfl
 have z11 : Try.prog.cellsOf 25 = 6 := by kernel_rfl
 rw [z11, e11] at g11
 obtain ⟨x11, k11_, b11_⟩ := (rd25_ W) enc n _ _ g11
 have hk := (seg_pair 0 1 16 k0_ (seg_pair 1 1 15 k1_ (seg_pair 2 1 14 k2_ (seg_pair 3 1 13 k3_ (seg_pair 4 1 12 k4_ (seg_pair 5 1 11 k5_ (seg_pair 6 1 10 k6_ (seg_pair 7 1 9 k7_ (seg_pair 8 1 8 k8_ (seg_pair 9 1 7 k9_ (seg_pair 10 1 6 k10_ k11_)))))))))))
 rw [seg_all hlen] at hk
 exact ⟨⟨x0, x1, x2, x3, x4, x5, x6, x7, x8, x9, x10, x11⟩, hk, b0_, b1_, b2_, b3_, b4_, b5_, b6_, b7_, b8_, b9_, b10_, b11_⟩

/-- THE ONE PURE STATEMENT of laws_FnExactWordOk: yours. -/
def laws_FnExactWordOk.Pure : Prop := ∀ (a0_0 : Int) (a0_1 : Int) (a0_2 : Int) (a0_3 : Int) (a0_4 : Int) (a0_5 : Int) (a0_6 : Bool) (l0_7 : List Int) (l0_8 : List (S75)) (a0_9 : Int) (l0_10 : List Int) (a0_11 : Int) (a0_12 : Int) (a0_13 : Int) (a0_14 : ByteArray) (a0_15 : Int) (a0_16 : Int), (B27 (⟨a0_0, a0_1, a0_2, a0_3, a0_4, a0_5, a0_6, l0_7, l0_8, a0_9, l0_10, (⟨a0_11, a0_12, a0_13, a0_14, a0_15, a0_16⟩ : S25)⟩ : S27)) → ∃ k, laws_FnExactWordOk.f k a0_0 a0_1 a0_2 a0_3 a0_4 a0_5 a0_6 l0_7 l0_8 a0_9 l0_10 a0_11 a0_12 a0_13 a0_14 a0_15 a0_16 = some true
theorem laws_FnExactWordOk.walk (P : laws_FnExactWordOk.Pure) (a0_0 : Int) (a0_1 : Int) (a0_2 : Int) (a0_3 : Int) (a0_4 : Int) (a0_5 : Int) (a0_6 : Bool) (A0_7 : Option Addr) (c0_7 : Nat) (l0_7 : List Int) (A0_8 : Option Addr) (c0_8 : Nat) (l0_8 : List (S75)) (a0_9 : Int) (A0_10 : Option Addr) (c0_10 : Nat) (l0_10 : List Int) (a0_11 : Int) (a0_12 : Int) (a0_13 : Int) (a0_14 : ByteArray) (a0_15 : Int) (a0_16 : Int) (w : World) (hr0_7 : Kd.C (Kd.int .i64) w A0_7 l0_7.length l0_7) (hc0_7 : l0_7.length ≤ c0_7) (hr0_8 : Kd.C k75 w A0_8 l0_8.length l0_8) (hc0_8 : l0_8.length ≤ c0_8) (hr0_10 : Kd.C (Kd.int .i64) w A0_10 l0_10.length l0_10) (hc0_10 : l0_10.length ≤ c0_10) (w0 : B27 (⟨a0_0, a0_1, a0_2, a0_3, a0_4, a0_5, a0_6, l0_7, l0_8, a0_9, l0_10, (⟨a0_11, a0_12, a0_13, a0_14, a0_15, a0_16⟩ : S25)⟩ : S27)) :
 Calls Try.prog 3 #[.agg #[.int .i64 a0_0, .int .i64 a0_1, .int .i64 a0_2, .int .i64 a0_3, .int .i64 a0_4, .int .i64 a0_5, .bool a0_6, .slice A0_7 l0_7.length c0_7, .slice A0_8 l0_8.length c0_8, .int .i64 a0_9, .slice A0_10 l0_10.length c0_10, .int .i64 a0_11, .int .i64 a0_12, .int .i64 a0_13, .string a0_14, .int .i64 a0_15, .int .i64 a0_16]] w fun e w' => e = .returned (.bool true) ∧ Below w.heap.size w w' := by
 obtain ⟨k, h⟩ := P a0_0 a0_1 a0_2 a0_3 a0_4 a0_5 a0_6 l0_7 l0_8 a0_9 l0_10 a0_11 a0_12 a0_13 a0_14 a0_15 a0_16 w0
 refine (laws_FnExactWordOk.calls k a0_0 a0_1 a0_2 a0_3 a0_4 a0_5 a0_6 A0_7 c0_7 l0_7 A0_8 c0_8 l0_8 a0_9 A0_10 c0_10 l0_10 a0_11 a0_12 a0_13 a0_14 a0_15 a0_16 true w hr0_7 hc0_7 hr0_8 hc0_8 hr0_10 hc0_10 rfl h).mono ?_
 rintro e w' ⟨rfl, hd⟩
 exact ⟨rfl, hd⟩

end Go.Proofs.Ytbjdnfgalopfiaa.PX
