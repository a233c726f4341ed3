/- The walk of the law FnExactWordPack. -/
import Derived.Test.YtbjdnfgalopfiaaLawE
import Derived.Test.YtbjdnfgalopfiaaE3
import Derived.Test.YtbjdnfgalopfiaaE4
import Derived.Test.YtbjdnfgalopfiaaPEx3
import Derived.Test.YtbjdnfgalopfiaaPEx10
import Derived.Test.YtbjdnfgalopfiaaPEx15
import Derived.Test.YtbjdnfgalopfiaaPEx36
import Derived.Test.YtbjdnfgalopfiaaPEx39
import Derived.Test.YtbjdnfgalopfiaaPEx40
import Derived.Test.YtbjdnfgalopfiaaPEx41
import Derived.Test.YtbjdnfgalopfiaaPEx5
import Derived.Deep.Cut
namespace Go.Proofs.Ytbjdnfgalopfiaa.PE
open Go.RowKit Go.Proofs.YtbjdnfgalopfiaaW.PrintWords Go.Proofs.YtbjdnfgalopfiaaW.PrintLast Go.Proofs.YtbjdnfgalopfiaaW.PrintMore Go.Proofs.Ytbjdnfgalopfiaa.PB
attribute [local go_sem] max2_int min2_int max_two min_two max_three min_three max_four min_four
set_option linter.unusedVariables false
set_option linter.unusedSimpArgs false
def B75 (x : S75) : Prop := ((Lit.int .i64 x.f0).wf = true) ∧ ((Lit.int .i64 x.f1).wf = true)
theorem rd75_ (W : World) : RdOf Try.prog W k75 75 B75 := by
 intro H enc fuel cs y h
 obtain ⟨xs, n, _, _, hlen, hxl, hg⟩ := DataW.trod_struct Try.underlying75 h
 have hlen : cs.length = 2 := hlen.trans (by kernel_rfl)
 have hxl : xs.length = 2 := hxl
 obtain ⟨y0, e0⟩ := nth_some (j := 0) hxl (by omega)
 have g0 : DataW.trod enc Try.prog W 0 (fun _ => true) true n 3 ((cs.drop 0).take (Try.prog.cellsOf 3)) = xs[0]? := hg 0 _ rfl
 have z0 : Try.prog.cellsOf 3 = 1 := by kernel_rfl
 rw [z0, e0] at g0
 obtain ⟨x0, k0_, b0_⟩ := (RdOf.int Try.underlying3) enc n _ _ g0
 obtain ⟨y1, e1⟩ := nth_some (j := 1) hxl (by omega)
 have g1 : DataW.trod enc Try.prog W 0 (fun _ => true) true n 3 ((cs.drop 1).take (Try.prog.cellsOf 3)) = xs[1]? := hg 1 _ rfl
 have z1 : Try.prog.cellsOf 3 = 1 := by kernel_rfl
 rw [z1, e1] at g1
 obtain ⟨x1, k1_, b1_⟩ := (RdOf.int Try.underlying3) enc n _ _ g1
 have hk := (seg_pair 0 1 1 k0_ k1_)
 rw [seg_all hlen] at hk
 exact ⟨⟨x0, x1⟩, hk, b0_, b1_⟩
def B25 (x : S25) : Prop := ((Lit.int .i64 x.f0).wf = true) ∧ ((Lit.int .i64 x.f1).wf = true) ∧ ((Lit.int .i64 x.f2).wf = true) ∧ (x.f3.size ≤ maxLen) ∧ ((Lit.int .i64 x.f4).wf = true) ∧ ((Lit.int .i64 x.f5).wf = true)
theorem rd25_ (W : World) : RdOf Try.prog W k25 25 B25 := by
 intro H enc fuel cs y h
 obtain ⟨xs, n, _, _, hlen, hxl, hg⟩ := DataW.trod_struct Try.underlying25 h
 have hlen : cs.length = 6 := hlen.trans (by kernel_rfl)
 have hxl : xs.length = 6 := hxl
 obtain ⟨y0, e0⟩ := nth_some (j := 0) hxl (by omega)
 have g0 : DataW.trod enc Try.prog W 0 (fun _ => true) true n 3 ((cs.drop 0).take (Try.prog.cellsOf 3)) = xs[0]? := hg 0 _ rfl
 have z0 : Try.prog.cellsOf 3 = 1 := by kernel_rfl
 rw [z0, e0] at g0
 obtain ⟨x0, k0_, b0_⟩ := (RdOf.int Try.underlying3) enc n _ _ g0
 obtain ⟨y1, e1⟩ := nth_some (j := 1) hxl (by omega)
 have g1 : DataW.trod enc Try.prog W 0 (fun _ => true) true n 3 ((cs.drop 1).take (Try.prog.cellsOf 3)) = xs[1]? := hg 1 _ rfl
 have z1 : Try.prog.cellsOf 3 = 1 := by kernel_rfl
 rw [z1, e1] at g1
 obtain ⟨x1, k1_, b1_⟩ := (RdOf.int Try.underlying3) enc n _ _ g1
 obtain ⟨y2, e2⟩ := nth_some (j := 2) hxl (by omega)
 have g2 : DataW.trod enc Try.prog W 0 (fun _ => true) true n 3 ((cs.drop 2).take (Try.prog.cellsOf 3)) = xs[2]? := hg 2 _ rfl
 have z2 : Try.prog.cellsOf 3 = 1 := by kernel_rfl
 rw [z2, e2] at g2
 obtain ⟨x2, k2_, b2_⟩ := (RdOf.int Try.underlying3) enc n _ _ g2
 obtain ⟨y3, e3⟩ := nth_some (j := 3) hxl (by omega)
 have g3 : DataW.trod enc Try.prog W 0 (fun _ => true) true n 9 ((cs.drop 3).take (Try.prog.cellsOf 9)) = xs[3]? := hg 3 _ rfl
 have z3 : Try.prog.cellsOf 9 = 1 := by kernel_rfl
 rw [z3, e3] at g3
 obtain ⟨x3, k3_, b3_⟩ := (RdOf.string Try.underlying9) enc n _ _ g3
 obtain ⟨y4, e4⟩ := nth_some (j := 4) hxl (by omega)
 have g4 : DataW.trod enc Try.prog W 0 (fun _ => true) true n 3 ((cs.drop 4).take (Try.prog.cellsOf 3)) = xs[4]? := hg 4 _ rfl
 have z4 : Try.prog.cellsOf 3 = 1 := by kernel_rfl
 rw [z4, e4] at g4
 obtain ⟨x4, k4_, b4_⟩ := (RdOf.int Try.underlying3) enc n _ _ g4
 obtain ⟨y5, e5⟩ := nth_some (j := 5) hxl (by omega)
 have g5 : DataW.trod enc Try.prog W 0 (fun _ => true) true n 3 ((cs.drop 5).take (Try.prog.cellsOf 3)) = xs[5]? := hg 5 _ rfl
 have z5 : Try.prog.cellsOf 3 = 1 := by kernel_rfl
 rw [z5, e5] at g5
 obtain ⟨x5, k5_, b5_⟩ := (RdOf.int Try.underlying3) enc n _ _ g5
 have hk := (seg_pair 0 1 5 k0_ (seg_pair 1 1 4 k1_ (seg_pair 2 1 3 k2_ (seg_pair 3 1 2 k3_ (seg_pair 4 1 1 k4_ k5_)))))
 rw [seg_all hlen] at hk
 exact ⟨⟨x0, x1, x2, x3, x4, x5⟩, hk, b0_, b1_, b2_, b3_, b4_, b5_⟩
def B27 (x : S27) : Prop := ((Lit.int .i64 x.f0).wf = true) ∧ ((Lit.int .i64 x.f1).wf = true) ∧ ((Lit.int .i64 x.f2).wf = true) ∧ ((Lit.int .i64 x.f3).wf = true) ∧ ((Lit.int .i64 x.f4).wf = true) ∧ ((Lit.int .i64 x.f5).wf = true) ∧ (True) ∧ ((x.f7.length ≤ maxLen ∧ ∀ y_ ∈ x.f7, (Lit.int .i64 y_).wf = true)) ∧ ((x.f8.length ≤ maxLen ∧ ∀ y_ ∈ x.f8, B75 y_)) ∧ ((Lit.int .i64 x.f9).wf = true) ∧ ((x.f10.length ≤ maxLen ∧ ∀ y_ ∈ x.f10, (Lit.int .i64 y_).wf = true)) ∧ (B25 x.f11)
theorem rd27_ (W : World) : RdOf Try.prog W k27 27 B27 := by
 intro H enc fuel cs y h
 obtain ⟨xs, n, _, _, hlen, hxl, hg⟩ := DataW.trod_struct Try.underlying27 h
 have hlen : cs.length = 17 := hlen.trans (by kernel_rfl)
 have hxl : xs.length = 12 := hxl
 obtain ⟨y0, e0⟩ := nth_some (j := 0) hxl (by omega)
 have g0 : DataW.trod enc Try.prog W 0 (fun _ => true) true n 3 ((cs.drop 0).take (Try.prog.cellsOf 3)) = xs[0]? := hg 0 _ rfl
 have z0 : Try.prog.cellsOf 3 = 1 := by kernel_rfl
 rw [z0, e0] at g0
 obtain ⟨x0, k0_, b0_⟩ := (RdOf.int Try.underlying3) enc n _ _ g0
 obtain ⟨y1, e1⟩ := nth_some (j := 1) hxl (by omega)
 have g1 : DataW.trod enc Try.prog W 0 (fun _ => true) true n 3 ((cs.drop 1).take (Try.prog.cellsOf 3)) = xs[1]? := hg 1 _ rfl
 have z1 : Try.prog.cellsOf 3 = 1 := by kernel_rfl
 rw [z1, e1] at g1
 obtain ⟨x1, k1_, b1_⟩ := (RdOf.int Try.underlying3) enc n _ _ g1
 obtain ⟨y2, e2⟩ := nth_some (j := 2) hxl (by omega)
 have g2 : DataW.trod enc Try.prog W 0 (fun _ => true) true n 3 ((cs.drop 2).take (Try.prog.cellsOf 3)) = xs[2]? := hg 2 _ rfl
 have z2 : Try.prog.cellsOf 3 = 1 := by kernel_rfl
 rw [z2, e2] at g2
 obtain ⟨x2, k2_, b2_⟩ := (RdOf.int Try.underlying3) enc n _ _ g2
 obtain ⟨y3, e3⟩ := nth_some (j := 3) hxl (by omega)
 have g3 : DataW.trod enc Try.prog W 0 (fun _ => true) true n 3 ((cs.drop 3).take (Try.prog.cellsOf 3)) = xs[3]? := hg 3 _ rfl
 have z3 : Try.prog.cellsOf 3 = 1 := by kernel_rfl
 rw [z3, e3] at g3
 obtain ⟨x3, k3_, b3_⟩ := (RdOf.int Try.underlying3) enc n _ _ g3
 obtain ⟨y4, e4⟩ := nth_some (j := 4) hxl (by omega)
 have g4 : DataW.trod enc Try.prog W 0 (fun _ => true) true n 3 ((cs.drop 4).take (Try.prog.cellsOf 3)) = xs[4]? := hg 4 _ rfl
 have z4 : Try.prog.cellsOf 3 = 1 := by kernel_rfl
 rw [z4, e4] at g4
 obtain ⟨x4, k4_, b4_⟩ := (RdOf.int Try.underlying3) enc n _ _ g4
 obtain ⟨y5, e5⟩ := nth_some (j := 5) hxl (by omega)
 have g5 : DataW.trod enc Try.prog W 0 (fun _ => true) true n 3 ((cs.drop 5).take (Try.prog.cellsOf 3)) = xs[5]? := hg 5 _ rfl
 have z5 : Try.prog.cellsOf 3 = 1 := by kernel_rfl
 rw [z5, e5] at g5
 obtain ⟨x5, k5_, b5_⟩ := (RdOf.int Try.underlying3) enc n _ _ g5
 obtain ⟨y6, e6⟩ := nth_some (j := 6) hxl (by omega)
 have g6 : DataW.trod enc Try.prog W 0 (fun _ => true) true n 4 ((cs.drop 6).take (Try.prog.cellsOf 4)) = xs[6]? := hg 6 _ rfl
 have z6 : Try.prog.cellsOf 4 = 1 := by kernel_rfl
 rw [z6, e6] at g6
 obtain ⟨x6, k6_, b6_⟩ := (RdOf.bool Try.underlying4) enc n _ _ g6
 obtain ⟨y7, e7⟩ := nth_some (j := 7) hxl (by omega)
 have g7 : DataW.trod enc Try.prog W 0 (fun _ => true) true n 22 ((cs.drop 7).take (Try.prog.cellsOf 22)) = xs[7]? := hg 7 _ rfl
 have z7 : Try.prog.cellsOf 22 = 1 := by kernel_rfl
 rw [z7, e7] at g7
 obtain ⟨x7, k7_, b7_⟩ := (RdOf.slice Try.underlying22 (by kernel_rfl) (RdOf.int Try.underlying3)) enc n _ _ g7
 obtain ⟨y8, e8⟩ := nth_some (j := 8) hxl (by omega)
 have g8 : DataW.trod enc Try.prog W 0 (fun _ => true) true n 23 ((cs.drop 8).take (Try.prog.cellsOf 23)) = xs[8]? := hg 8 _ rfl
 have z8 : Try.prog.cellsOf 23 = 1 := by kernel_rfl
 rw [z8, e8] at g8
 obtain ⟨x8, k8_, b8_⟩ := (RdOf.slice Try.underlying23 (by kernel_rfl) (rd75_ W)) enc n _ _ g8
 obtain ⟨y9, e9⟩ := nth_some (j := 9) hxl (by omega)
 have g9 : DataW.trod enc Try.prog W 0 (fun _ => true) true n 3 ((cs.drop 9).take (Try.prog.cellsOf 3)) = xs[9]? := hg 9 _ rfl
 have z9 : Try.prog.cellsOf 3 = 1 := by kernel_rfl
 rw [z9, e9] at g9
 obtain ⟨x9, k9_, b9_⟩ := (RdOf.int Try.underlying3) enc n _ _ g9
 obtain ⟨y10, e10⟩ := nth_some (j := 10) hxl (by omega)
 have g10 : DataW.trod enc Try.prog W 0 (fun _ => true) true n 22 ((cs.drop 10).take (Try.prog.cellsOf 22)) = xs[10]? := hg 10 _ rfl
 have z10 : Try.prog.cellsOf 22 = 1 := by kernel_rfl
 rw [z10, e10] at g10
 obtain ⟨x10, k10_, b10_⟩ := (RdOf.slice Try.underlying22 (by kernel_rfl) (RdOf.int Try.underlying3)) enc n _ _ g10
 obtain ⟨y11, e11⟩ := nth_some (j := 11) hxl (by omega)
 have g11 : DataW.trod enc Try.prog W 0 (fun _ => true) true n 25 ((cs.drop 11).take (Try.prog.cellsOf 25)) = xs[11]? := hg 11 _ rfl
 have z11 : Try.prog.cellsOf 25 = 6 := by kernel_rfl
 rw [z11, e11] at g11
 obtain ⟨x11, k11_, b11_⟩ := (rd25_ W) enc n _ _ g11
 have hk := (seg_pair 0 1 16 k0_ (seg_pair 1 1 15 k1_ (seg_pair 2 1 14 k2_ (seg_pair 3 1 13 k3_ (seg_pair 4 1 12 k4_ (seg_pair 5 1 11 k5_ (seg_pair 6 1 10 k6_ (seg_pair 7 1 9 k7_ (seg_pair 8 1 8 k8_ (seg_pair 9 1 7 k9_ (seg_pair 10 1 6 k10_ k11_)))))))))))
 rw [seg_all hlen] at hk
 exact ⟨⟨x0, x1, x2, x3, x4, x5, x6, x7, x8, x9, x10, x11⟩, hk, b0_, b1_, b2_, b3_, b4_, b5_, b6_, b7_, b8_, b9_, b10_, b11_⟩
theorem own_i64 {w : World} {base : Nat} {ok ok' : Nat → Prop} {v : Value} {l : List Int} (h : Kd.R (Kd.int .i64) 3 w base ok v l) (h0 : ∀ k, v.ownBlock = some k → ok' k) : Kd.R (Kd.int .i64) 3 w base ok' v l := ⟨h0, (Kd.R_mono h (ok' := fun _ => True) (fun _ _ => trivial)).2.imp_ (fun _ _ hp => hp)⟩
theorem ld_ {P : Program} {md : Region.Mode} {ops : Array Oper} {Q : Exit → Act → World → Prop} {S : World → Prop} {ds : List Nat} (i : Nat) (N : Option Tmp) (l' : Array Bool) (b : Nat) (t : TypeId) (x : Operand) (cs : Array Value) (d : TypeDesc) {oi : Oper} {fuel : Nat} {l : Array Bool} {a : Act} {w : World} (hc : takeB md ops ds l l' i = true) (hS : S w)
    (hb : ∀ w, S w → w.heap[b]? = some (.cells cs t (0, 0))) (hu : P.underlying t = some d) (hd : (match d with | .struct _ | .array _ _ => true | _ => false) = true) (hz : (P.info? t).map (·.size) = some cs.size) {a' : Act} (h : wpAnyLast P md ops Q S ds fuel l' a' w)
    (hi : ops[i]? = some oi := by rfl) (hN : oi.dst = N := by rfl) (ho : oi.op = .load t x := by rfl) (hx : a.eval x = .pointer (some ⟨b, 0, none⟩) := by rfl) (hQ : ∀ c a w, Q (.panic c) (a.put oi.dst (.agg cs)) w → Q (.panic c) a w := by exact fun _ _ _ h => h) (hw : Region.wanted oi (yielded ops a.tmps) = true := by rfl)
    (ha : a.put N (.agg cs) = a' := by (simp only [Act.put, List.setIfInBounds_toArray, List.set_cons_zero, List.set_cons_succ, i64_w, i32_w]; rfl)) : wpAnyLast P md ops Q S ds (fuel + 1) l a w :=
  take_ l' hi hN hc hQ (Or.inl ⟨hw, fun w hw' => by
    unfold execOp
    simp only [ho, hx, Instr.loadAt, Instr.sureAddr, Sem.run_bind, Sem.run_pure, Result.andThen_ok, run_loadVar_row w b t t cs (0, 0) d (hb w hw') hu hd hz]⟩) hS ha h

set_option maxHeartbeats 8000000 in
set_option maxRecDepth 100000 in
theorem laws_FnExactWordPack.walk (a0 a1 a2 a3 a4 a5 : Int) (a6 : Bool) (A7 : Option Addr) (c7 : Nat) (l7 : List Int) (A8 : Option Addr) (c8 : Nat) (l8 : List S75) (a9 : Int) (A10 : Option Addr) (c10 : Nat) (l10 : List Int) (a11 a12 a13 : Int) (t : ByteArray) (a15 a16 : Int) (w : World) (hr7 : Kd.C (Kd.int .i64) w A7 l7.length l7) (hc7 : l7.length ≤ c7) (hr8 : Kd.C k75 w A8 l8.length l8) (hc8 : l8.length ≤ c8) (hr10 : Kd.C (Kd.int .i64) w A10 l10.length l10) (hc10 : l10.length ≤ c10) (hw0 : B27 (⟨a0, a1, a2, a3, a4, a5, a6, l7, l8, a9, l10, (⟨a11, a12, a13, t, a15, a16⟩ : S25)⟩ : S27)) :
    Calls Try.prog 5 #[.agg #[.int .i64 a0, .int .i64 a1, .int .i64 a2, .int .i64 a3, .int .i64 a4, .int .i64 a5, .bool a6, .slice A7 l7.length c7, .slice A8 l8.length c8, .int .i64 a9, .slice A10 l10.length c10, .int .i64 a11, .int .i64 a12, .int .i64 a13, .string t, .int .i64 a15, .int .i64 a16]] w fun e w' => e = .returned (.bool true) ∧ Below w.heap.size w w' := by
  have hu27 := Try.underlying27
  have hu33 := Try.underlying33
  have hm : maxLen = 9223372036854775807 := rfl
  obtain ⟨z, hz, hzz⟩ := sz_ev a0 a1 a2 a3 a4 a5 a6 l7 l8 a9 l10 a11 a12 a13 t a15 a16 (by have := hw0; simp only [B27, B25] at this; omega) (by have := hw0; simp only [B27, B25] at this; omega) (by have := hw0; simp only [B27, B25] at this; omega) (by have := hw0; simp only [B27, B25] at this; omega)
  clear hw0 hm
  have HR7 := Aside0.mk hr7
  have HC7 := Aside0.mk hc7
  clear hr7 hc7
  have HR8 := Aside0.mk hr8
  have HC8 := Aside0.mk hc8
  clear hr8 hc8
  have HR10 := Aside0.mk hr10
  have HC10 := Aside0.mk hc10
  clear hr10 hc10
  have HZ := Aside0.mk hz
  have HZZ := Aside0.mk hzz
  clear hz hzz
  have HB := Aside0.mk (Below.refl w.heap.size w)
  have hb := below_alloc (Below.refl w.heap.size w) (.cells #[.int .i64 a0, .int .i64 a1, .int .i64 a2, .int .i64 a3, .int .i64 a4, .int .i64 a5, .bool a6, .slice A7 l7.length c7, .slice A8 l8.length c8, .int .i64 a9, .slice A10 l10.length c10, .int .i64 a11, .int .i64 a12, .int .i64 a13, .string t, .int .i64 a15, .int .i64 a16] 27 (0, 0))
  have HB := Aside0.mk (below_step HB.out (hb))
  clear hb
  have P1 := Aside0.mk (blk_new w (.cells #[.int .i64 a0, .int .i64 a1, .int .i64 a2, .int .i64 a3, .int .i64 a4, .int .i64 a5, .bool a6, .slice A7 l7.length c7, .slice A8 l8.length c8, .int .i64 a9, .slice A10 l10.length c10, .int .i64 a11, .int .i64 a12, .int .i64 a13, .string t, .int .i64 a15, .int .i64 a16] 27 (0, 0)))
  go_enter Try.func5, Try.ntmps5
  go_wp2_with (((with_reducible refine gate_dst (N := 11) rfl ?_); refine wpList_load_row rfl 27 (.tmp 1) rfl w.heap.size rfl 27 #[.int .i64 a0, .int .i64 a1, .int .i64 a2, .int .i64 a3, .int .i64 a4, .int .i64 a5, .bool a6, .slice A7 l7.length c7, .slice A8 l8.length c8, .int .i64 a9, .slice A10 l10.length c10, .int .i64 a11, .int .i64 a12, .int .i64 a13, .string t, .int .i64 a15, .int .i64 a16] (0, 0) _ P1.out hu27 rfl (by kernel_rfl) ?_))
  generalize w.alloc (.cells #[.int .i64 a0, .int .i64 a1, .int .i64 a2, .int .i64 a3, .int .i64 a4, .int .i64 a5, .bool a6, .slice A7 l7.length c7, .slice A8 l8.length c8, .int .i64 a9, .slice A10 l10.length c10, .int .i64 a11, .int .i64 a12, .int .i64 a13, .string t, .int .i64 a15, .int .i64 a16] 27 (0, 0)) = W1 at P1 HB ⊢
  obtain ⟨b1, hq_⟩ : ∃ b1, b1 = w.heap.size := ⟨_, rfl⟩
  rw [← hq_] at P1 ⊢
  clear hq_
  refine (laws_szWord.calls a0 a1 a2 a3 a4 a5 a6 A7 c7 l7 A8 c8 l8 a9 A10 c10 l10 a11 a12 a13 t a15 a16 1048576 z W1 (Kd.C_below HR7.out HB.out) HC7.out (Kd.C_below HR8.out HB.out) HC8.out (Kd.C_below HR10.out HB.out) HC10.out HZ.out).mono ?_
  rintro e W2 ⟨rfl, hb⟩
  have P1 := kb P1 (hb)
  have HB := Aside0.mk (below_step HB.out (hb))
  clear hb
  by_cases hz : z < 0
  · have hdz : decide (z < 0) = true := decide_eq_true hz
    clear hz
    go_wp2_with (fail)
    go_ret
    exact ⟨rfl, HB.out⟩
  have hdz : decide (z < 0) = false := decide_eq_false hz
  obtain ⟨hl7, hl8, hl10⟩ := HZZ.out (by omega)
  clear hz HZ HZZ
  obtain ⟨k, b, out, r, s2, s3, s4, hout, hok, hcl, e1, e2, e3, e4, e5, hr, e6, e7, e8⟩ := pack_law a0 a1 a2 a3 a4 a5 a6 l7 l8 a9 l10 a11 a12 a13 t a15 a16 hl7 hl8 hl10
  generalize conv l8 = lp at hout hok hcl e1 e2 e3 e4 e5
  rw [← hcl] at hl8
  have HL := Aside0.mk (And.intro hl7 (And.intro hl8 hl10))
  have HOUT := Aside0.mk hout
  have HOK := Aside0.mk hok
  have HRR := Aside0.mk hr
  clear hl7 hl8 hl10 hout hok hcl hr
  have E1 := Aside0.mk e1
  clear e1
  have E2 := Aside0.mk e2
  clear e2
  have E3 := Aside0.mk e3
  clear e3
  have E4 := Aside0.mk e4
  clear e4
  have E5 := Aside0.mk e5
  clear e5
  have E6 := Aside0.mk e6
  clear e6
  have E7 := Aside0.mk e7
  clear e7
  have E8 := Aside0.mk e8
  clear e8
  go_wp2_with (((with_reducible refine gate_dst (N := 16) rfl ?_); refine wpList_load_row rfl 27 (.tmp 1) rfl b1 rfl 27 #[.int .i64 a0, .int .i64 a1, .int .i64 a2, .int .i64 a3, .int .i64 a4, .int .i64 a5, .bool a6, .slice A7 l7.length c7, .slice A8 l8.length c8, .int .i64 a9, .slice A10 l10.length c10, .int .i64 a11, .int .i64 a12, .int .i64 a13, .string t, .int .i64 a15, .int .i64 a16] (0, 0) _ P1.out hu27 rfl (by kernel_rfl) ?_))
  refine (laws_toWord.calls k a0 a1 a2 a3 a4 a5 a6 A7 c7 l7 A8 c8 l8 a9 A10 c10 l10 a11 a12 a13 t a15 a16 a0 a1 a2 a3 a4 a5 a6 l7 lp a9 l10 a11 a12 a13 t a15 a16 W2 (Kd.C_below HR7.out HB.out) HC7.out (Kd.C_below HR8.out HB.out) HC8.out (Kd.C_below HR10.out HB.out) HC10.out E1.out).mono ?_
  rintro e W3 ⟨v7, v8, v10, rfl, r7, r8, r10, hb⟩
  have RX7 := Aside0.mk (Kd.R_lower r7 HB.out.size)
  have RX8 := Aside0.mk (Kd.R_lower r8 HB.out.size)
  have RX10 := Aside0.mk (Kd.R_lower r10 HB.out.size)
  clear r7 r8 r10
  have P1 := kb P1 (hb)
  have HB := Aside0.mk (below_step HB.out (hb))
  clear hb
  obtain ⟨X7, X7c, e_⟩ := Kd.R_slice RX7.out
  subst e_
  obtain ⟨X8, X8c, e_⟩ := Kd.R_slice RX8.out
  subst e_
  obtain ⟨X10, X10c, e_⟩ := Kd.R_slice RX10.out
  subst e_
  go_wp2_with (fail)
  refine (spackW a0 a1 a2 a3 a4 a5 a6 X7 X7c l7 X8 X8c lp a9 X10 X10c l10 a11 a12 a13 t a15 a16 W3 (Kd.R_reads' RX7.out).2.2 (Kd.R_reads' RX7.out).2.1 (Kd.R_reads' RX8.out).2.2 (Kd.R_reads' RX8.out).2.1 (Kd.R_reads' RX10.out).2.2 (Kd.R_reads' RX10.out).2.1 HL.out b k out E2.out HOK.out HOUT.out).mono ?_
  rintro e W4 ⟨Aw, cw, rfl, ro, hb⟩
  obtain ⟨n4, hn4⟩ : ∃ n, n = W4.heap.size := ⟨_, rfl⟩
  have OW := Aside0.mk (show Kd.R (Kd.int .u8) 5 W4 w.heap.size (fun k => k < n4) (.slice Aw out.length cw) out from Kd.R_lower (Kd.R_mono (Kd.R_bound ro) (fun k hk => by rw [hn4]; exact hk.2.2.1)) HB.out.size)
  have S4 := Aside0.mk hn4
  have L1 := Aside0.mk (show b1 < n4 by have := blk_lt P1.out; have := hb.size; omega)
  clear ro hn4
  have P1 := kb P1 (hb)
  have RX7 := Aside0.mk (Kd.R_below RX7.out (hb))
  have RX8 := Aside0.mk (Kd.R_below RX8.out (hb))
  have RX10 := Aside0.mk (Kd.R_below RX10.out (hb))
  have HB := Aside0.mk (below_step HB.out (hb))
  clear hb
  clear RX7
  clear RX8
  clear RX10
  go_wp2_with (((with_reducible refine gate_dst (N := 19) rfl ?_); refine wpList_load_row rfl 27 (.tmp 1) rfl b1 rfl 27 #[.int .i64 a0, .int .i64 a1, .int .i64 a2, .int .i64 a3, .int .i64 a4, .int .i64 a5, .bool a6, .slice A7 l7.length c7, .slice A8 l8.length c8, .int .i64 a9, .slice A10 l10.length c10, .int .i64 a11, .int .i64 a12, .int .i64 a13, .string t, .int .i64 a15, .int .i64 a16] (0, 0) _ P1.out hu27 rfl (by kernel_rfl) ?_))
  refine (laws_toWord.calls k a0 a1 a2 a3 a4 a5 a6 A7 c7 l7 A8 c8 l8 a9 A10 c10 l10 a11 a12 a13 t a15 a16 a0 a1 a2 a3 a4 a5 a6 l7 lp a9 l10 a11 a12 a13 t a15 a16 W4 (Kd.C_below HR7.out HB.out) HC7.out (Kd.C_below HR8.out HB.out) HC8.out (Kd.C_below HR10.out HB.out) HC10.out E1.out).mono ?_
  rintro e W5 ⟨v7, v8, v10, rfl, r7, r8, r10, hb⟩
  have S_ : n4 = W4.heap.size := S4.out
  obtain ⟨n5, hn5⟩ : ∃ n, n = W5.heap.size := ⟨_, rfl⟩
  have q7 := own_i64 r7 (ok' := fun k => (n4 ≤ k ∧ k < n5) ∧ some k = v7.ownBlock) (fun k hk => ⟨⟨by rw [S_]; exact ((Kd.R_bound r7).1 k hk).2.1, by rw [hn5]; exact ((Kd.R_bound r7).1 k hk).2.2.1⟩, hk.symm⟩)
  have q10 := Kd.R_mono (Kd.R_bound r10) (ok' := fun k => (n4 ≤ k ∧ k < n5) ∧ some k ≠ v7.ownBlock) (fun k hk => ⟨⟨by rw [S_]; exact hk.2.1, by rw [hn5]; exact hk.2.2.1⟩, hk.1⟩)
  have q8 := Kd.R_mono (Kd.R_bound r8) (ok' := fun k => n4 ≤ k ∧ k < n5) (fun k hk => ⟨by rw [S_]; exact hk.2.1, by rw [hn5]; exact hk.2.2.1⟩)
  have S5 := Aside0.mk hn5
  clear hn5 S_ r7 r8 r10
  have hb5_ := hb.size
  have RY7 := Aside0.mk (Kd.R_lower q7 HB.out.size)
  have RY8 := Aside0.mk (Kd.R_lower q8 HB.out.size)
  have RY10 := Aside0.mk (Kd.R_lower q10 HB.out.size)
  clear q7 q8 q10
  have P1 := kb P1 (hb)
  have OW := Aside0.mk (Kd.R_below OW.out (hb))
  have HB := Aside0.mk (below_step HB.out (hb))
  clear hb
  obtain ⟨Y7, Y7c, e_⟩ := Kd.R_slice RY7.out
  subst e_
  obtain ⟨Y8, Y8c, e_⟩ := Kd.R_slice RY8.out
  subst e_
  obtain ⟨Y10, Y10c, e_⟩ := Kd.R_slice RY10.out
  subst e_
  have L45 := Aside0.mk (show n4 ≤ n5 by have := S4.out; have := S5.out; omega)
  clear S4 hb5_
  go_wp2_with (first | ((with_reducible refine gate_dst (N := 5) rfl ?_); (refine box_event ?hg (N := 5) ?hd (cs := #[.int .i64 0, .int .i64 0, .int .i64 0, .int .i64 0, .int .i64 0, .int .i64 0, .bool false, .slice none 0 0, .slice none 0 0, .int .i64 0, .slice none 0 0, .int .i64 0, .int .i64 0, .int .i64 0, .string (⟨#[]⟩ : ByteArray), .int .i64 0, .int .i64 0]) (t := 33) ?hr ?_; (case hd => rfl); (case hg => rfl); (case hr => first | (go_simp; done) | (go_simp; rfl)); intro b5 hb5 W6 hbox hA; have HA := Aside0.mk hA; have P5 := Aside0.mk hbox; have HB5 := Aside0.mk hb5; clear hA hbox hb5)) | ((with_reducible refine gate_store (t := 33) (p := 5) rfl ?_); (refine wpList_store_row rfl 33 (.tmp 5) (.tmp 20) rfl b5 #[.int .i64 a0, .int .i64 a1, .int .i64 a2, .int .i64 a3, .int .i64 a4, .int .i64 a5, .bool a6, .slice Y7 l7.length Y7c, .slice Y8 lp.length Y8c, .int .i64 a9, .slice Y10 l10.length Y10c, .int .i64 a11, .int .i64 a12, .int .i64 a13, .string t, .int .i64 a15, .int .i64 a16] rfl rfl 33 #[.int .i64 0, .int .i64 0, .int .i64 0, .int .i64 0, .int .i64 0, .int .i64 0, .bool false, .slice none 0 0, .slice none 0 0, .int .i64 0, .slice none 0 0, .int .i64 0, .int .i64 0, .int .i64 0, .string (⟨#[]⟩ : ByteArray), .int .i64 0, .int .i64 0] P5.out (by kernel_rfl) rfl (by simp [Value.oneCell']) ?_; replace HA : Aside0 (Below W5.heap.size W5 (W6.setRow b5 #[.int .i64 a0, .int .i64 a1, .int .i64 a2, .int .i64 a3, .int .i64 a4, .int .i64 a5, .bool a6, .slice Y7 l7.length Y7c, .slice Y8 lp.length Y8c, .int .i64 a9, .slice Y10 l10.length Y10c, .int .i64 a11, .int .i64 a12, .int .i64 a13, .string t, .int .i64 a15, .int .i64 a16])) := ⟨HA.out.trans ⟨rfl, rfl, rfl, by simp, fun k hk => setRow_other _ _ _ _ (by have := HB5.out; omega)⟩⟩; replace P5 := Aside0.mk (setRow_heap W6 b5 _ #[.int .i64 a0, .int .i64 a1, .int .i64 a2, .int .i64 a3, .int .i64 a4, .int .i64 a5, .bool a6, .slice Y7 l7.length Y7c, .slice Y8 lp.length Y8c, .int .i64 a9, .slice Y10 l10.length Y10c, .int .i64 a11, .int .i64 a12, .int .i64 a13, .string t, .int .i64 a15, .int .i64 a16] 33 (0, 0) P5.out); generalize W6.setRow b5 #[.int .i64 a0, .int .i64 a1, .int .i64 a2, .int .i64 a3, .int .i64 a4, .int .i64 a5, .bool a6, .slice Y7 l7.length Y7c, .slice Y8 lp.length Y8c, .int .i64 a9, .slice Y10 l10.length Y10c, .int .i64 a11, .int .i64 a12, .int .i64 a13, .string t, .int .i64 a15, .int .i64 a16] = W7 at HA P5 ⊢)) | ((with_reducible refine gate_dst (N := 21) rfl ?_); (refine wpList_load_row rfl 33 (.tmp 5) rfl b5 rfl 33 #[.int .i64 a0, .int .i64 a1, .int .i64 a2, .int .i64 a3, .int .i64 a4, .int .i64 a5, .bool a6, .slice Y7 l7.length Y7c, .slice Y8 lp.length Y8c, .int .i64 a9, .slice Y10 l10.length Y10c, .int .i64 a11, .int .i64 a12, .int .i64 a13, .string t, .int .i64 a15, .int .i64 a16] (0, 0) _ P5.out hu33 rfl (by kernel_rfl) ?_)))
  have hb := HA.out
  have L5 := Aside0.mk (show n5 ≤ W7.heap.size by have := S5.out; have := hb.size; omega)
  have Q5 := Aside0.mk (show n5 ≤ b5 by have := S5.out; have := HB5.out; omega)
  clear HA HB5 S5
  have P1 := kb P1 (hb)
  have OW := Aside0.mk (Kd.R_below OW.out (hb))
  have RY7 := Aside0.mk (Kd.R_below RY7.out (hb))
  have RY8 := Aside0.mk (Kd.R_below RY8.out (hb))
  have RY10 := Aside0.mk (Kd.R_below RY10.out (hb))
  have HB := Aside0.mk (below_step HB.out (hb))
  clear hb
  refine (ipackW a0 a1 a2 a3 a4 a5 a6 Y7 Y7c l7 Y8 Y8c lp a9 Y10 Y10c l10 a11 a12 a13 t a15 a16 W7 (Kd.R_reads' RY7.out).2.2 (Kd.R_reads' RY7.out).2.1 (Kd.R_reads' RY8.out).2.2 (Kd.R_reads' RY8.out).2.1 (Kd.R_reads' RY10.out).2.2 (Kd.R_reads' RY10.out).2.1 HL.out b k out E3.out HOK.out HOUT.out).mono ?_
  rintro e W8 ⟨Ag, cg, rfl, ro, hb⟩
  obtain ⟨n7, hn7⟩ : ∃ n, n = W7.heap.size := ⟨_, rfl⟩
  have OG := Aside0.mk (show Kd.R (Kd.int .u8) 5 W8 w.heap.size (fun k => n7 ≤ k) (.slice Ag out.length cg) out from Kd.R_lower (Kd.R_mono (Kd.R_bound ro) (fun k hk => by rw [hn7]; exact hk.2.1)) HB.out.size)
  have L7 := Aside0.mk (show n5 ≤ n7 by have := L5.out; omega)
  clear ro hn7
  have P1 := kb P1 (hb)
  have P5 := kb P5 (hb)
  have OW := Aside0.mk (Kd.R_below OW.out (hb))
  have RY7 := Aside0.mk (Kd.R_below RY7.out (hb))
  have RY8 := Aside0.mk (Kd.R_below RY8.out (hb))
  have RY10 := Aside0.mk (Kd.R_below RY10.out (hb))
  have HB := Aside0.mk (below_step HB.out (hb))
  clear hb
  clear L5
  have hnot : (!true) = false := rfl
  go_wp2_with (fail)
  refine (laws_eqByteS.calls k Ag cg out Aw cw out true W8 (Kd.R_reads' OG.out).2.2 (Kd.R_reads' OG.out).2.1 (Kd.R_reads' OW.out).2.2 (Kd.R_reads' OW.out).2.1 E6.out).mono ?_
  rintro e wz_ ⟨rfl, ⟨nd, rfl⟩⟩
  have hb := pw_below_drewN (Below.refl W8.heap.size W8) nd
  generalize W8.drewN nd = W9 at hb ⊢
  have P1 := kb P1 (hb)
  have P5 := kb P5 (hb)
  have OW := Aside0.mk (Kd.R_below OW.out (hb))
  have RY7 := Aside0.mk (Kd.R_below RY7.out (hb))
  have RY8 := Aside0.mk (Kd.R_below RY8.out (hb))
  have RY10 := Aside0.mk (Kd.R_below RY10.out (hb))
  have OG := Aside0.mk (Kd.R_below OG.out (hb))
  have HB := Aside0.mk (below_step HB.out (hb))
  clear hb
  go_wp2_with (fail)
  have P1 := kbd P1
  have P5 := kbd P5
  have OW := Aside0.mk (Kd.R_drew OW.out)
  have RY7 := Aside0.mk (Kd.R_drew RY7.out)
  have RY8 := Aside0.mk (Kd.R_drew RY8.out)
  have RY10 := Aside0.mk (Kd.R_drew RY10.out)
  have OG := Aside0.mk (Kd.R_drew OG.out)
  have HB := Aside0.mk (below_drew1 HB.out)
  refine start_ (n := 5) (S := fun w' => w'.heap[b5]? = some (.cells #[.int .i64 a0, .int .i64 a1, .int .i64 a2, .int .i64 a3, .int .i64 a4, .int .i64 a5, .bool a6, .slice Y7 l7.length Y7c, .slice Y8 lp.length Y8c, .int .i64 a9, .slice Y10 l10.length Y10c, .int .i64 a11, .int .i64 a12, .int .i64 a13, .string t, .int .i64 a15, .int .i64 a16] 33 (0, 0)) ∧ w'.heap[b1]? = some (.cells #[.int .i64 a0, .int .i64 a1, .int .i64 a2, .int .i64 a3, .int .i64 a4, .int .i64 a5, .bool a6, .slice A7 l7.length c7, .slice A8 l8.length c8, .int .i64 a9, .slice A10 l10.length c10, .int .i64 a11, .int .i64 a12, .int .i64 a13, .string t, .int .i64 a15, .int .i64 a16] 27 (0, 0))) (ds := []) (bt_ 5 0) (by kernel_rfl) rfl rfl ⟨P5.out, P1.out⟩ (fun hHeld => ?_)
  generalize W9.drew = W10 at P1 P5 OW RY7 RY8 RY10 OG HB hHeld ⊢
  refine ld_ 0 (some 27) (bt_ 5 1) b5 33 (.tmp 5) #[.int .i64 a0, .int .i64 a1, .int .i64 a2, .int .i64 a3, .int .i64 a4, .int .i64 a5, .bool a6, .slice Y7 l7.length Y7c, .slice Y8 lp.length Y8c, .int .i64 a9, .slice Y10 l10.length Y10c, .int .i64 a11, .int .i64 a12, .int .i64 a13, .string t, .int .i64 a15, .int .i64 a16] _ (by kernel_rfl) hHeld (fun _ h_ => h_.1) hu33 rfl (by kernel_rfl) ?_
  refine ld_ 1 (some 28) (bt_ 5 3) b1 27 (.tmp 1) #[.int .i64 a0, .int .i64 a1, .int .i64 a2, .int .i64 a3, .int .i64 a4, .int .i64 a5, .bool a6, .slice A7 l7.length c7, .slice A8 l8.length c8, .int .i64 a9, .slice A10 l10.length c10, .int .i64 a11, .int .i64 a12, .int .i64 a13, .string t, .int .i64 a15, .int .i64 a16] _ (by kernel_rfl) hHeld (fun _ h_ => h_.2) hu27 rfl (by kernel_rfl) ?_
  refine one_ (i := 2) (N := some 29) (bt_ 5 7) rfl rfl (by kernel_rfl) (by decide) (fun K hK => ?_)
  refine goes_ Try.func8 (by kernel_rfl) rfl #[.agg #[.int .i64 a0, .int .i64 a1, .int .i64 a2, .int .i64 a3, .int .i64 a4, .int .i64 a5, .bool a6, .slice A7 l7.length c7, .slice A8 l8.length c8, .int .i64 a9, .slice A10 l10.length c10, .int .i64 a11, .int .i64 a12, .int .i64 a13, .string t, .int .i64 a15, .int .i64 a16]] (by rfl) rfl rfl (by simp only [List.map_toArray, List.map_cons, List.map_nil]; rfl) ?_
  refine (laws_toWord.calls k a0 a1 a2 a3 a4 a5 a6 A7 c7 l7 A8 c8 l8 a9 A10 c10 l10 a11 a12 a13 t a15 a16 a0 a1 a2 a3 a4 a5 a6 l7 lp a9 l10 a11 a12 a13 t a15 a16 W10 (Kd.C_below HR7.out HB.out) HC7.out (Kd.C_below HR8.out HB.out) HC8.out (Kd.C_below HR10.out HB.out) HC10.out E1.out).mono ?_
  rintro e W11 ⟨v7, v8, v10, rfl, r7, r8, r10, hb⟩
  refine ⟨_, rfl, ?_⟩
  have RD7 := Aside0.mk (Kd.R_lower r7 HB.out.size)
  have RD8 := Aside0.mk (Kd.R_lower r8 HB.out.size)
  have RD10 := Aside0.mk (Kd.R_lower r10 HB.out.size)
  clear r7 r8 r10
  have P1 := kb P1 (hb)
  have P5 := kb P5 (hb)
  have OW := Aside0.mk (Kd.R_below OW.out (hb))
  have RY7 := Aside0.mk (Kd.R_below RY7.out (hb))
  have RY8 := Aside0.mk (Kd.R_below RY8.out (hb))
  have RY10 := Aside0.mk (Kd.R_below RY10.out (hb))
  have OG := Aside0.mk (Kd.R_below OG.out (hb))
  have HB := Aside0.mk (below_step HB.out (hb))
  clear hb
  obtain ⟨D7, D7c, e_⟩ := Kd.R_slice RD7.out
  subst e_
  obtain ⟨D8, D8c, e_⟩ := Kd.R_slice RD8.out
  subst e_
  obtain ⟨D10, D10c, e_⟩ := Kd.R_slice RD10.out
  subst e_
  refine hK.out _ _ ⟨P5.out, P1.out⟩ (fun hHeld => ?_)
  clear hK K
  refine norm_ (a' := ?_) ?_ ?_
  rotate_left
  · show Act.put _ (some 29) _ = _
    simp only [Act.put, List.setIfInBounds_toArray, List.set_cons_zero, List.set_cons_succ, i64_w, i32_w]
    rfl
  clear hHeld
  refine one_ (i := 3) (N := some 30) (bt_ 5 15) rfl rfl (by kernel_rfl) (by decide) (fun K hK => ?_)
  refine goes_ Try.func10 (by kernel_rfl) rfl #[.agg #[.int .i64 a0, .int .i64 a1, .int .i64 a2, .int .i64 a3, .int .i64 a4, .int .i64 a5, .bool a6, .slice Y7 l7.length Y7c, .slice Y8 lp.length Y8c, .int .i64 a9, .slice Y10 l10.length Y10c, .int .i64 a11, .int .i64 a12, .int .i64 a13, .string t, .int .i64 a15, .int .i64 a16], .agg #[.int .i64 a0, .int .i64 a1, .int .i64 a2, .int .i64 a3, .int .i64 a4, .int .i64 a5, .bool a6, .slice D7 l7.length D7c, .slice D8 lp.length D8c, .int .i64 a9, .slice D10 l10.length D10c, .int .i64 a11, .int .i64 a12, .int .i64 a13, .string t, .int .i64 a15, .int .i64 a16]] (by rfl) rfl rfl (by simp only [List.map_toArray, List.map_cons, List.map_nil]; rfl) ?_
  refine (laws_eqWord.calls k a0 a1 a2 a3 a4 a5 a6 Y7 Y7c l7 Y8 Y8c lp a9 Y10 Y10c l10 a11 a12 a13 t a15 a16 a0 a1 a2 a3 a4 a5 a6 D7 D7c l7 D8 D8c lp a9 D10 D10c l10 a11 a12 a13 t a15 a16 true W11 (Kd.R_reads' RY7.out).2.2 (Kd.R_reads' RY7.out).2.1 (Kd.R_reads' RY8.out).2.2 (Kd.R_reads' RY8.out).2.1 (Kd.R_reads' RY10.out).2.2 (Kd.R_reads' RY10.out).2.1 (Kd.R_reads' RD7.out).2.2 (Kd.R_reads' RD7.out).2.1 (Kd.R_reads' RD8.out).2.2 (Kd.R_reads' RD8.out).2.1 (Kd.R_reads' RD10.out).2.2 (Kd.R_reads' RD10.out).2.1 E4.out).mono ?_
  rintro e W12 ⟨rfl, hb⟩
  refine ⟨_, rfl, ?_⟩
  have P1 := kb P1 (hb)
  have P5 := kb P5 (hb)
  have OW := Aside0.mk (Kd.R_below OW.out (hb))
  have RY7 := Aside0.mk (Kd.R_below RY7.out (hb))
  have RY8 := Aside0.mk (Kd.R_below RY8.out (hb))
  have RY10 := Aside0.mk (Kd.R_below RY10.out (hb))
  have OG := Aside0.mk (Kd.R_below OG.out (hb))
  have RD7 := Aside0.mk (Kd.R_below RD7.out (hb))
  have RD8 := Aside0.mk (Kd.R_below RD8.out (hb))
  have RD10 := Aside0.mk (Kd.R_below RD10.out (hb))
  have HB := Aside0.mk (below_step HB.out (hb))
  clear hb
  refine hK.out _ _ ⟨P5.out, P1.out⟩ (fun hHeld => ?_)
  clear hK K
  refine norm_ (a' := ?_) ?_ ?_
  rotate_left
  · show Act.put _ (some 30) _ = _
    simp only [Act.put, List.setIfInBounds_toArray, List.set_cons_zero, List.set_cons_succ, i64_w, i32_w]
    rfl
  clear hHeld
  clear RD7
  clear RD8
  clear RD10
  refine pu_ 4 (some 31) (bt_ 5 31) (by kernel_rfl) ?_
  refine done_ (by kernel_rfl) ?_
  go_wp2_with (((with_reducible refine gate_dst (N := 32) rfl ?_); refine wpList_load_row rfl 33 (.tmp 5) rfl b5 rfl 33 #[.int .i64 a0, .int .i64 a1, .int .i64 a2, .int .i64 a3, .int .i64 a4, .int .i64 a5, .bool a6, .slice Y7 l7.length Y7c, .slice Y8 lp.length Y8c, .int .i64 a9, .slice Y10 l10.length Y10c, .int .i64 a11, .int .i64 a12, .int .i64 a13, .string t, .int .i64 a15, .int .i64 a16] (0, 0) _ P5.out hu33 rfl (by kernel_rfl) ?_))
  refine (laws_markWord.calls k a0 a1 a2 a3 a4 a5 a6 (fun k => (n4 ≤ k ∧ k < n5) ∧ some k = (Value.slice Y7 l7.length Y7c).ownBlock) (.slice Y7 l7.length Y7c) l7 (fun k => n4 ≤ k ∧ k < n5) (.slice Y8 lp.length Y8c) lp a9 (fun k => (n4 ≤ k ∧ k < n5) ∧ some k ≠ (Value.slice Y7 l7.length Y7c).ownBlock) (.slice Y10 l10.length Y10c) l10 a11 a12 a13 t a15 a16 1 r s2 s3 s4 w W12 HB.out RY7.out (fun k h1 h2 => h2.2 h1.2) RY8.out RY10.out (fun k h1 h2 => h1.2 h2.2) E5.out).mono ?_
  rintro e W13 ⟨rfl, _, _, _, hb, hk⟩
  have hk := Kept.mono hk (S' := fun k => n4 ≤ k ∧ k < n5) (fun k h => by rcases h with h | h | h <;> first | exact h.1 | exact h)
  have HB := Aside0.mk hb
  have P1 := Aside0.mk (blk_kept P1.out hk (by have := L1.out; omega))
  have OW := Aside0.mk (Kd.R_kept OW.out hk (fun k h1 h2 => by omega))
  have OG := Aside0.mk (Kd.R_kept OG.out hk (fun k h1 h2 => by have := L7.out; omega))
  clear hb hk P5
  clear RY7
  clear RY8
  clear RY10
  have hdr : decide (r < 0) = false := decide_eq_false (by have := HRR.out; omega)
  go_wp2_with (fail)
  refine (laws_eqByteS.calls k Ag cg out Aw cw out true W13 (Kd.R_reads' OG.out).2.2 (Kd.R_reads' OG.out).2.1 (Kd.R_reads' OW.out).2.2 (Kd.R_reads' OW.out).2.1 E6.out).mono ?_
  rintro e wz_ ⟨rfl, ⟨nd, rfl⟩⟩
  have hb := pw_below_drewN (Below.refl W13.heap.size W13) nd
  generalize W13.drewN nd = W14 at hb ⊢
  have P1 := kb P1 (hb)
  have OW := Aside0.mk (Kd.R_below OW.out (hb))
  have OG := Aside0.mk (Kd.R_below OG.out (hb))
  have HB := Aside0.mk (below_step HB.out (hb))
  clear hb
  go_wp2_with (fail)
  refine (laws_markByteS.calls k (fun k => n7 ≤ k) (.slice Ag out.length cg) out 1 (1 + (out.length : Int)) (bmarks 1 out.length) w W14 HB.out OG.out E7.out).mono ?_
  rintro e W15 ⟨rfl, ro, hb, hk⟩
  have HB := Aside0.mk hb
  have P1 := Aside0.mk (blk_kept P1.out hk (by have := L1.out; have := L7.out; have := L45.out; omega))
  have OW := Aside0.mk (Kd.R_kept OW.out hk (fun k h1 h2 => by have := L7.out; have := L45.out; omega))
  have OG := Aside0.mk ro
  clear hb hk ro
  have HBL := Aside0.mk (bmarks_length 1 out.length)
  go_wp2_with (fail)
  have hh := laws_heldByteS.calls k Ag cg (bmarks 1 out.length) 1 (1 + (out.length : Int)) W15 (Kd.R_reads' OG.out).2.2 (by have := (Kd.R_reads' OG.out).2.1; rw [bmarks_length]; exact this) E8.out
  rw [bmarks_length] at hh
  refine hh.mono ?_
  clear hh
  rintro e wz_ ⟨rfl, ⟨nd, rfl⟩⟩
  have hb := pw_below_drewN (Below.refl W15.heap.size W15) nd
  generalize W15.drewN nd = W16 at hb ⊢
  have P1 := kb P1 (hb)
  have OW := Aside0.mk (Kd.R_below OW.out (hb))
  have OG := Aside0.mk (Kd.R_below OG.out (hb))
  have HB := Aside0.mk (below_step HB.out (hb))
  clear hb
  have hdm : decide (1 + (out.length : Int) < 0) = false := decide_eq_false (by omega)
  go_wp2_with (((with_reducible refine gate_dst (N := 54) rfl ?_); refine wpList_load_row rfl 27 (.tmp 1) rfl b1 rfl 27 #[.int .i64 a0, .int .i64 a1, .int .i64 a2, .int .i64 a3, .int .i64 a4, .int .i64 a5, .bool a6, .slice A7 l7.length c7, .slice A8 l8.length c8, .int .i64 a9, .slice A10 l10.length c10, .int .i64 a11, .int .i64 a12, .int .i64 a13, .string t, .int .i64 a15, .int .i64 a16] (0, 0) _ P1.out hu27 rfl (by kernel_rfl) ?_))
  refine (laws_toWord.calls k a0 a1 a2 a3 a4 a5 a6 A7 c7 l7 A8 c8 l8 a9 A10 c10 l10 a11 a12 a13 t a15 a16 a0 a1 a2 a3 a4 a5 a6 l7 lp a9 l10 a11 a12 a13 t a15 a16 W16 (Kd.C_below HR7.out HB.out) HC7.out (Kd.C_below HR8.out HB.out) HC8.out (Kd.C_below HR10.out HB.out) HC10.out E1.out).mono ?_
  rintro e W17 ⟨v7, v8, v10, rfl, r7, r8, r10, hb⟩
  have RZ7 := Aside0.mk (Kd.R_lower r7 HB.out.size)
  have RZ8 := Aside0.mk (Kd.R_lower r8 HB.out.size)
  have RZ10 := Aside0.mk (Kd.R_lower r10 HB.out.size)
  clear r7 r8 r10
  have P1 := kb P1 (hb)
  have OW := Aside0.mk (Kd.R_below OW.out (hb))
  have OG := Aside0.mk (Kd.R_below OG.out (hb))
  have HB := Aside0.mk (below_step HB.out (hb))
  clear hb
  obtain ⟨Z7, Z7c, e_⟩ := Kd.R_slice RZ7.out
  subst e_
  obtain ⟨Z8, Z8c, e_⟩ := Kd.R_slice RZ8.out
  subst e_
  obtain ⟨Z10, Z10c, e_⟩ := Kd.R_slice RZ10.out
  subst e_
  go_wp2_with (fail)
  refine (ipackW a0 a1 a2 a3 a4 a5 a6 Z7 Z7c l7 Z8 Z8c lp a9 Z10 Z10c l10 a11 a12 a13 t a15 a16 W17 (Kd.R_reads' RZ7.out).2.2 (Kd.R_reads' RZ7.out).2.1 (Kd.R_reads' RZ8.out).2.2 (Kd.R_reads' RZ8.out).2.1 (Kd.R_reads' RZ10.out).2.2 (Kd.R_reads' RZ10.out).2.1 HL.out b k out E3.out HOK.out HOUT.out).mono ?_
  rintro e W18 ⟨Ah, ch, rfl, ro, hb⟩
  have OH := Aside0.mk (Kd.R_lower ro HB.out.size)
  clear ro
  have P1 := kb P1 (hb)
  have OW := Aside0.mk (Kd.R_below OW.out (hb))
  have OG := Aside0.mk (Kd.R_below OG.out (hb))
  have RZ7 := Aside0.mk (Kd.R_below RZ7.out (hb))
  have RZ8 := Aside0.mk (Kd.R_below RZ8.out (hb))
  have RZ10 := Aside0.mk (Kd.R_below RZ10.out (hb))
  have HB := Aside0.mk (below_step HB.out (hb))
  clear hb
  clear RZ7
  clear RZ8
  clear RZ10
  go_wp2_with (fail)
  refine (laws_eqByteS.calls k Ah ch out Aw cw out true W18 (Kd.R_reads' OH.out).2.2 (Kd.R_reads' OH.out).2.1 (Kd.R_reads' OW.out).2.2 (Kd.R_reads' OW.out).2.1 E6.out).mono ?_
  rintro e wz_ ⟨rfl, ⟨nd, rfl⟩⟩
  have hb := pw_below_drewN (Below.refl W18.heap.size W18) nd
  generalize W18.drewN nd = W19 at hb ⊢
  have P1 := kb P1 (hb)
  have OW := Aside0.mk (Kd.R_below OW.out (hb))
  have OG := Aside0.mk (Kd.R_below OG.out (hb))
  have OH := Aside0.mk (Kd.R_below OH.out (hb))
  have HB := Aside0.mk (below_step HB.out (hb))
  clear hb
  go_wp2_with (fail)
  have hh := laws_heldByteS.calls k Ag cg (bmarks 1 out.length) 1 (1 + (out.length : Int)) W19 (Kd.R_reads' OG.out).2.2 (by have := (Kd.R_reads' OG.out).2.1; rw [bmarks_length]; exact this) E8.out
  rw [bmarks_length] at hh
  refine hh.mono ?_
  clear hh
  rintro e wz_ ⟨rfl, ⟨nd, rfl⟩⟩
  have hb := pw_below_drewN (Below.refl W19.heap.size W19) nd
  generalize W19.drewN nd = W20 at hb ⊢
  have P1 := kb P1 (hb)
  have OW := Aside0.mk (Kd.R_below OW.out (hb))
  have OG := Aside0.mk (Kd.R_below OG.out (hb))
  have OH := Aside0.mk (Kd.R_below OH.out (hb))
  have HB := Aside0.mk (below_step HB.out (hb))
  clear hb
  go_wp2_with (fail)
  go_ret
  exact ⟨rfl, HB.out⟩
end Go.Proofs.Ytbjdnfgalopfiaa.PE
