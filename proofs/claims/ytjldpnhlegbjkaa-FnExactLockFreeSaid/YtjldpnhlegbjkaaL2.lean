/- The law FnExactLockFree, walked by hand. -/
import Derived.Test.YtjldpnhlegbjkaaS5
import Derived.Test.YtjldpnhlegbjkaaPAx0
import Derived.Test.YtjldpnhlegbjkaaPAx10
import Derived.Test.YtjldpnhlegbjkaaPAx11
import Derived.Test.YtjldpnhlegbjkaaPAx12
import Derived.Test.YtjldpnhlegbjkaaPAx4
import Derived.Test.YtjldpnhlegbjkaaPAx6
import Derived.Test.YtjldpnhlegbjkaaPAx7
import Derived.Test.YtjldpnhlegbjkaaPAx8
import Derived.Test.YtjldpnhlegbjkaaPAx9
import Derived.Test.YtjldpnhlegbjkaaPAx3
namespace Go.Proofs.Ytjldpnhlegbjkaa.PA
open Go.RowKit Go.Proofs.YtjldpnhlegbjkaaW.PrintWords Go.Proofs.YtjldpnhlegbjkaaW.PrintLast Go.Proofs.YtjldpnhlegbjkaaW.PrintMore
attribute [local go_sem] max2_int min2_int max_two min_two max_three min_three max_four min_four
set_option linter.unusedVariables false
set_option linter.unusedSimpArgs false

def B42 (x : S42) : Prop := ((Lit.int .i64 x.f0).wf = true) ∧ ((Lit.int .i64 x.f1).wf = true) ∧ (True) ∧ (True)
theorem rd42_ (W : World) : RdOf Try.prog W k42 42 B42 := by
 intro H enc fuel cs y h
 obtain ⟨xs, n, _, _, hlen, hxl, hg⟩ := DataW.trod_struct Try.underlying42 h
 have hlen : cs.length = 4 := hlen.trans (by kernel_rfl)
 have hxl : xs.length = 4 := hxl
 obtain ⟨y0, e0⟩ := nth_some (j := 0) hxl (by omega)
 have g0 : DataW.trod enc Try.prog W 0 (fun _ => true) true n 3 ((cs.drop 0).take (Try.prog.cellsOf 3)) = xs[0]? := hg 0 _ rfl
 have z0 : Try.prog.cellsOf 3 = 1 := by kernel_rfl
 rw [z0, e0] at g0
 obtain ⟨x0, k0_, b0_⟩ := (RdOf.int Try.underlying3) enc n _ _ g0
 obtain ⟨y1, e1⟩ := nth_some (j := 1) hxl (by omega)
 have g1 : DataW.trod enc Try.prog W 0 (fun _ => true) true n 3 ((cs.drop 1).take (Try.prog.cellsOf 3)) = xs[1]? := hg 1 _ rfl
 have z1 : Try.prog.cellsOf 3 = 1 := by kernel_rfl
 rw [z1, e1] at g1
 obtain ⟨x1, k1_, b1_⟩ := (RdOf.int Try.underlying3) enc n _ _ g1
 obtain ⟨y2, e2⟩ := nth_some (j := 2) hxl (by omega)
 have g2 : DataW.trod enc Try.prog W 0 (fun _ => true) true n 4 ((cs.drop 2).take (Try.prog.cellsOf 4)) = xs[2]? := hg 2 _ rfl
 have z2 : Try.prog.cellsOf 4 = 1 := by kernel_rfl
 rw [z2, e2] at g2
 obtain ⟨x2, k2_, b2_⟩ := (RdOf.bool Try.underlying4) enc n _ _ g2
 obtain ⟨y3, e3⟩ := nth_some (j := 3) hxl (by omega)
 have g3 : DataW.trod enc Try.prog W 0 (fun _ => true) true n 4 ((cs.drop 3).take (Try.prog.cellsOf 4)) = xs[3]? := hg 3 _ rfl
 have z3 : Try.prog.cellsOf 4 = 1 := by kernel_rfl
 rw [z3, e3] at g3
 obtain ⟨x3, k3_, b3_⟩ := (RdOf.bool Try.underlying4) enc n _ _ g3
 have hk := (seg_pair 0 1 3 k0_ (seg_pair 1 1 2 k1_ (seg_pair 2 1 1 k2_ k3_)))
 rw [seg_all hlen] at hk
 exact ⟨⟨x0, x1, x2, x3⟩, hk, b0_, b1_, b2_, b3_⟩
def B24 (x : S24) : Prop := ((Lit.int .i64 x.f0).wf = true) ∧ ((x.f1.length ≤ maxLen ∧ ∀ y_ ∈ x.f1, B42 y_)) ∧ ((x.f2.length ≤ maxLen ∧ ∀ y_ ∈ x.f2, B42 y_))
theorem rd24_ (W : World) : RdOf Try.prog W k24 24 B24 := by
 intro H enc fuel cs y h
 obtain ⟨xs, n, _, _, hlen, hxl, hg⟩ := DataW.trod_struct Try.underlying24 h
 have hlen : cs.length = 3 := hlen.trans (by kernel_rfl)
 have hxl : xs.length = 3 := hxl
 obtain ⟨y0, e0⟩ := nth_some (j := 0) hxl (by omega)
 have g0 : DataW.trod enc Try.prog W 0 (fun _ => true) true n 3 ((cs.drop 0).take (Try.prog.cellsOf 3)) = xs[0]? := hg 0 _ rfl
 have z0 : Try.prog.cellsOf 3 = 1 := by kernel_rfl
 rw [z0, e0] at g0
 obtain ⟨x0, k0_, b0_⟩ := (RdOf.int Try.underlying3) enc n _ _ g0
 obtain ⟨y1, e1⟩ := nth_some (j := 1) hxl (by omega)
 have g1 : DataW.trod enc Try.prog W 0 (fun _ => true) true n 22 ((cs.drop 1).take (Try.prog.cellsOf 22)) = xs[1]? := hg 1 _ rfl
 have z1 : Try.prog.cellsOf 22 = 1 := by kernel_rfl
 rw [z1, e1] at g1
 obtain ⟨x1, k1_, b1_⟩ := (RdOf.slice Try.underlying22 (by kernel_rfl) (rd42_ W)) enc n _ _ g1
 obtain ⟨y2, e2⟩ := nth_some (j := 2) hxl (by omega)
 have g2 : DataW.trod enc Try.prog W 0 (fun _ => true) true n 22 ((cs.drop 2).take (Try.prog.cellsOf 22)) = xs[2]? := hg 2 _ rfl
 have z2 : Try.prog.cellsOf 22 = 1 := by kernel_rfl
 rw [z2, e2] at g2
 obtain ⟨x2, k2_, b2_⟩ := (RdOf.slice Try.underlying22 (by kernel_rfl) (rd42_ W)) enc n _ _ g2
 have hk := (seg_pair 0 1 2 k0_ (seg_pair 1 1 1 k1_ k2_))
 rw [seg_all hlen] at hk
 exact ⟨⟨x0, x1, x2⟩, hk, b0_, b1_, b2_⟩

def FreeFacts (k : Nat) (s : Int) (l1 l2 : List S42) (st ty : Int) : Prop := ∃ (L1 L2 : List S45) (r1 : Int) (r2 r3 : List S45) (r5 : List S45) (m1 : Int) (X1 X2 : List S45) (n1 : Int) (G1 G2 : List S45) (n2 : Int) (G5 : List S45),
  laws_toLock.f k s l1 l2 = some (s, L1, L2) ∧ (L1.length ≤ 1048576 ∧ L2.length ≤ 1048576) ∧ freeF s L1 L2 st ty = (r1, r2, r3, r5) ∧ laws_eqLock.f k r1 r2 r3 r1 r2 r3 = some true ∧ laws_eqHoldS.f k r5 r5 = some true ∧ laws_eqLock.f k s L1 L2 s L1 L2 = some true ∧
  (laws_markLock.f k s L1 L2 1 = some (m1, X1, X2) ∧ ¬ m1 < 0) ∧ laws_markLock.f k r1 r2 r3 1 = some (n1, G1, G2) ∧ laws_markHoldS.f k r5 n1 = some (n2, G5) ∧ (laws_heldLock.f k r1 G1 G2 1 = some n1 ∧ ¬ n1 < 0) ∧ (laws_heldHoldS.f k G5 n1 = some n2 ∧ ¬ n2 < 0) ∧ G1.length = r2.length ∧ G2.length = r3.length ∧ G5.length = r5.length
theorem Rw.kept {w0 lo hi : Nat} {w w' : World} {D : Nat → Prop} {v : Value} {l : List S45} (h : Rw w0 w lo hi v l) (hk : Kept w w' D) (hn : ∀ k, lo ≤ k → k < hi → ¬ D k) : Rw w0 w' lo hi v l := Kd.R_kept h hk (fun k ho => hn k ho.2.1 ho.2.2)
set_option maxHeartbeats 8000000 in
set_option maxRecDepth 100000 in
theorem lawf_main (k : Nat) (s : Int) (A1 : Option Addr) (c1 : Nat) (l1 : List S42) (A2 : Option Addr) (c2 : Nat) (l2 : List S42) (st ty : Int) (z : Int) (w : World) (hr1 : Kd.C k42 w A1 l1.length l1) (hc1 : l1.length ≤ c1) (hr2 : Kd.C k42 w A2 l2.length l2) (hc2 : l2.length ≤ c2)
    (hsz : laws_szLock.f s l1 l2 1048576 = some z) (hm : ¬ z < 0 → FreeFacts k s l1 l2 st ty) : Calls Try.prog 5 #[.agg #[.int .i64 s, .slice A1 l1.length c1, .slice A2 l2.length c2], .int .i64 st, .int .i64 ty] w fun e w' => e = .returned (.bool true) ∧ Below w.heap.size w w' := by
  have hu24 := Try.underlying24
  have hu29 := Try.underlying29
  have HR1 := Aside0.mk hr1
  have HC1 := Aside0.mk hc1
  have HR2 := Aside0.mk hr2
  have HC2 := Aside0.mk hc2
  have HSZ := Aside0.mk hsz
  have HM := Aside0.mk hm
  clear hr1 hc1 hr2 hc2 hsz hm
  have HB := Aside0.mk (below_alloc (Below.refl w.heap.size w) (.cells #[.int .i64 s, .slice A1 l1.length c1, .slice A2 l2.length c2] 24 (0, 0)))
  have P2 := Aside0.mk (blk_new w (.cells #[.int .i64 s, .slice A1 l1.length c1, .slice A2 l2.length c2] 24 (0, 0)))
  go_enter Try.func5, Try.ntmps5
  go_wp2_with (fail)
  generalize w.alloc (.cells #[.int .i64 s, .slice A1 l1.length c1, .slice A2 l2.length c2] 24 (0, 0)) = W1 at HB P2 ⊢
  have Z1 := Aside0.mk (blk_lt P2.out)
  go_wp2_with (((with_reducible refine gate_dst (N := 18) rfl ?_); refine wpList_load_row rfl 24 (.tmp 3) rfl w.heap.size rfl 24 #[.int .i64 s, .slice A1 l1.length c1, .slice A2 l2.length c2] (0, 0) _ P2.out hu24 rfl (by kernel_rfl) ?_))
  refine (laws_szLock.calls s A1 c1 l1 A2 c2 l2 1048576 z W1 (Kd.C_below HR1.out HB.out) HC1.out (Kd.C_below HR2.out HB.out) HC2.out HSZ.out).mono ?_
  rintro e W2 ⟨rfl, hb⟩
  have Z201 := Aside0.mk (hb).size
  have P2 := Aside0.mk (blk_below P2.out (hb))
  have HB := Aside0.mk (below_step HB.out (hb))
  clear hb
  by_cases hz : z < 0
  · have hzd : decide (z < 0) = true := decide_eq_true hz
    go_wp2_with (fail)
    go_ret
    exact ⟨rfl, HB.out⟩
  · obtain ⟨L1, L2, r1, r2, r3, r5, m1, X1, X2, n1, G1, G2, n2, G5, f1, f3, f4, f5, f6, f7, ⟨f8, f9⟩, f10, f11, ⟨f12, f13⟩, ⟨f14, f15⟩, f16, f17, f18⟩ := HM.out (by omega)
    have HTO := Aside0.mk f1
    have HLL := Aside0.mk f3
    have HASK := Aside0.mk f4
    have HE1 := Aside0.mk f5
    have HE2 := Aside0.mk f6
    have HE3 := Aside0.mk f7
    have HMX := Aside0.mk f8
    have HMX0 := Aside0.mk f9
    have HMG := Aside0.mk f10
    have HMH := Aside0.mk f11
    have HHG := Aside0.mk f12
    have HN1 := Aside0.mk f13
    have HHH := Aside0.mk f14
    have HN2 := Aside0.mk f15
    have HG1 := Aside0.mk f16
    have HG2 := Aside0.mk f17
    have HG5 := Aside0.mk f18
    clear f1 f3 f4 f5 f6 f7 f8 f9 f10 f11 f12 f13 f14 f15 f16 f17 f18 HM
    have hzd : decide (z < 0) = false := decide_eq_false hz
    go_wp2_with (((with_reducible refine gate_dst (N := 24) rfl ?_); refine wpList_load_row rfl 24 (.tmp 3) rfl w.heap.size rfl 24 #[.int .i64 s, .slice A1 l1.length c1, .slice A2 l2.length c2] (0, 0) _ P2.out hu24 rfl (by kernel_rfl) ?_))
    clear hzd hz
    refine (laws_toLock.calls k s A1 c1 l1 A2 c2 l2 s L1 L2 W2 (Kd.C_below HR1.out HB.out) HC1.out (Kd.C_below HR2.out HB.out) HC2.out HTO.out).mono ?_
    rintro e W3 ⟨va, vb, rfl, qa, qb, hb⟩
    obtain ⟨TA, ta, e0⟩ := Kd.R_slice qa
    subst e0
    obtain ⟨TB, tb, e0⟩ := Kd.R_slice qb
    subst e0
    have q1 := Rw.of qa HB.out.size
    have q2 := Rw.of qb HB.out.size
    have SX := Aside0.mk (show ∀ k, (Value.slice TA L1.length ta).ownBlock = some k → (Value.slice TB L2.length tb).ownBlock ≠ some k from fun k hk e => (qa.1 k hk) e.symm)
    clear qa qb
    have Z302 := Aside0.mk (hb).size
    have P2 := Aside0.mk (blk_below P2.out (hb))
    have HB := Aside0.mk (below_step HB.out (hb))
    clear hb
    have QA := Aside0.mk q1
    have QB := Aside0.mk q2
    clear q1 q2
    go_wp2_with (fail)
    refine (sfree_calls s TA ta L1 TB tb L2 st ty r1 r2 r3 r5 W3 (QA.out.reads).2.2 (QA.out.reads).2.1 (QB.out.reads).2.2 (QB.out.reads).2.1 HLL.out.1 HLL.out.2 HASK.out).mono ?_
    rintro e W4 ⟨v1, v2, v4, rfl, q1, q2, q4, hb⟩
    have SAa := Aside0.mk (show ∀ k, v1.ownBlock = some k → v2.ownBlock ≠ some k ∧ v4.ownBlock ≠ some k from fun k hk => ⟨fun e => (q1.1 k hk).1 e.symm, fun e => (q1.1 k hk).2 e.symm⟩)
    have SBa := Aside0.mk (show ∀ k, v2.ownBlock = some k → v4.ownBlock ≠ some k from fun k hk e => (q2.1 k hk).2 e.symm)
    have q1 := Rw.of q1 HB.out.size
    have q2 := Rw.of q2 HB.out.size
    have q4 := Rw.of q4 HB.out.size
    have Z403 := Aside0.mk (hb).size
    have P2 := Aside0.mk (blk_below P2.out (hb))
    have QA := Aside0.mk (Rw.below QA.out (hb))
    have QB := Aside0.mk (Rw.below QB.out (hb))
    have HB := Aside0.mk (below_step HB.out (hb))
    clear hb
    have QW1 := Aside0.mk q1
    have QW2 := Aside0.mk q2
    have QW5 := Aside0.mk q4
    clear q1 q2 q4
    obtain ⟨V1, v1_, e0⟩ := Rw.slice QW1.out
    subst e0
    obtain ⟨V2, v2_, e0⟩ := Rw.slice QW2.out
    subst e0
    obtain ⟨V5, v5_, e0⟩ := Rw.slice QW5.out
    subst e0
    clear QA QB
    have Z504 := Aside0.mk (below_alloc (Below.refl W4.heap.size W4) (.cells #[.int .i64 r1, .slice V1 r2.length v1_, .slice V2 r3.length v2_] 29 (0, 0))).size
    have P2 := Aside0.mk (blk_below P2.out (below_alloc (Below.refl W4.heap.size W4) (.cells #[.int .i64 r1, .slice V1 r2.length v1_, .slice V2 r3.length v2_] 29 (0, 0))))
    have QW1 := Aside0.mk (Rw.below QW1.out (below_alloc (Below.refl W4.heap.size W4) (.cells #[.int .i64 r1, .slice V1 r2.length v1_, .slice V2 r3.length v2_] 29 (0, 0))))
    have QW2 := Aside0.mk (Rw.below QW2.out (below_alloc (Below.refl W4.heap.size W4) (.cells #[.int .i64 r1, .slice V1 r2.length v1_, .slice V2 r3.length v2_] 29 (0, 0))))
    have QW5 := Aside0.mk (Rw.below QW5.out (below_alloc (Below.refl W4.heap.size W4) (.cells #[.int .i64 r1, .slice V1 r2.length v1_, .slice V2 r3.length v2_] 29 (0, 0))))
    have HB := Aside0.mk (below_step HB.out (below_alloc (Below.refl W4.heap.size W4) (.cells #[.int .i64 r1, .slice V1 r2.length v1_, .slice V2 r3.length v2_] 29 (0, 0))))
    have P6 := Aside0.mk (blk_new W4 (.cells #[.int .i64 r1, .slice V1 r2.length v1_, .slice V2 r3.length v2_] 29 (0, 0)))
    have ZHa := Aside0.mk (blk_lt P6.out)
    go_wp2_with (first | ((with_reducible refine gate_dst (N := 31) rfl ?_); refine wpList_load_row rfl 24 (.tmp 3) rfl w.heap.size rfl 24 #[.int .i64 s, .slice A1 l1.length c1, .slice A2 l2.length c2] (0, 0) _ P2.out hu24 rfl (by kernel_rfl) ?_))
    generalize W4.alloc (.cells #[.int .i64 r1, .slice V1 r2.length v1_, .slice V2 r3.length v2_] 29 (0, 0)) = W5 at P6 ZHa Z504 P2 HB QW1 QW2 QW5 ⊢
    obtain ⟨b6, hb6⟩ : ∃ b6, b6 = W4.heap.size := ⟨_, rfl⟩
    rw [← hb6] at P6 ZHa ⊢
    have ZLa := Aside0.mk hb6
    clear hb6
    refine (laws_toLock.calls k s A1 c1 l1 A2 c2 l2 s L1 L2 W5 (Kd.C_below HR1.out HB.out) HC1.out (Kd.C_below HR2.out HB.out) HC2.out HTO.out).mono ?_
    rintro e W6 ⟨va, vb, rfl, qa, qb, hb⟩
    obtain ⟨XA, xa, e0⟩ := Kd.R_slice qa
    subst e0
    obtain ⟨XB, xb, e0⟩ := Kd.R_slice qb
    subst e0
    have q1 := Rw.of qa HB.out.size
    have q2 := Rw.of qb HB.out.size
    have SX := Aside0.mk (show ∀ k, (Value.slice XA L1.length xa).ownBlock = some k → (Value.slice XB L2.length xb).ownBlock ≠ some k from fun k hk e => (qa.1 k hk) e.symm)
    clear qa qb
    have Z607 := Aside0.mk (hb).size
    have P2 := Aside0.mk (blk_below P2.out (hb))
    have P6 := Aside0.mk (blk_below P6.out (hb))
    have QW1 := Aside0.mk (Rw.below QW1.out (hb))
    have QW2 := Aside0.mk (Rw.below QW2.out (hb))
    have QW5 := Aside0.mk (Rw.below QW5.out (hb))
    have HB := Aside0.mk (below_step HB.out (hb))
    clear hb
    have QX1 := Aside0.mk q1
    have QX2 := Aside0.mk q2
    clear q1 q2
    have Z708 := Aside0.mk (below_alloc (Below.refl W6.heap.size W6) (.cells #[.int .i64 s, .slice XA L1.length xa, .slice XB L2.length xb] 29 (0, 0))).size
    have P2 := Aside0.mk (blk_below P2.out (below_alloc (Below.refl W6.heap.size W6) (.cells #[.int .i64 s, .slice XA L1.length xa, .slice XB L2.length xb] 29 (0, 0))))
    have P6 := Aside0.mk (blk_below P6.out (below_alloc (Below.refl W6.heap.size W6) (.cells #[.int .i64 s, .slice XA L1.length xa, .slice XB L2.length xb] 29 (0, 0))))
    have QW1 := Aside0.mk (Rw.below QW1.out (below_alloc (Below.refl W6.heap.size W6) (.cells #[.int .i64 s, .slice XA L1.length xa, .slice XB L2.length xb] 29 (0, 0))))
    have QW2 := Aside0.mk (Rw.below QW2.out (below_alloc (Below.refl W6.heap.size W6) (.cells #[.int .i64 s, .slice XA L1.length xa, .slice XB L2.length xb] 29 (0, 0))))
    have QW5 := Aside0.mk (Rw.below QW5.out (below_alloc (Below.refl W6.heap.size W6) (.cells #[.int .i64 s, .slice XA L1.length xa, .slice XB L2.length xb] 29 (0, 0))))
    have QX1 := Aside0.mk (Rw.below QX1.out (below_alloc (Below.refl W6.heap.size W6) (.cells #[.int .i64 s, .slice XA L1.length xa, .slice XB L2.length xb] 29 (0, 0))))
    have QX2 := Aside0.mk (Rw.below QX2.out (below_alloc (Below.refl W6.heap.size W6) (.cells #[.int .i64 s, .slice XA L1.length xa, .slice XB L2.length xb] 29 (0, 0))))
    have HB := Aside0.mk (below_step HB.out (below_alloc (Below.refl W6.heap.size W6) (.cells #[.int .i64 s, .slice XA L1.length xa, .slice XB L2.length xb] 29 (0, 0))))
    have P9 := Aside0.mk (blk_new W6 (.cells #[.int .i64 s, .slice XA L1.length xa, .slice XB L2.length xb] 29 (0, 0)))
    have ZHn := Aside0.mk (blk_lt P9.out)
    go_wp2_with (first | ((with_reducible refine gate_dst (N := 34) rfl ?_); refine wpList_load_row rfl 29 (.tmp 10) rfl W6.heap.size rfl 29 #[.int .i64 s, .slice XA L1.length xa, .slice XB L2.length xb] (0, 0) _ P9.out hu29 rfl (by kernel_rfl) ?_))
    generalize W6.alloc (.cells #[.int .i64 s, .slice XA L1.length xa, .slice XB L2.length xb] 29 (0, 0)) = W7 at P9 ZHn Z708 P2 P6 HB QW1 QW2 QW5 QX1 QX2 ⊢
    obtain ⟨b9, hb9⟩ : ∃ b9, b9 = W6.heap.size := ⟨_, rfl⟩
    rw [← hb9] at P9 ZHn ⊢
    have ZLn := Aside0.mk hb9
    clear hb9
    refine (free_calls s XA xa L1 XB xb L2 st ty r1 r2 r3 r5 W7 (QX1.out.reads).2.2 (QX1.out.reads).2.1 (QX2.out.reads).2.2 (QX2.out.reads).2.1 HLL.out.1 HLL.out.2 HASK.out).mono ?_
    rintro e W8 ⟨v1, v2, v4, rfl, q1, q2, q4, hb⟩
    have SAb := Aside0.mk (show ∀ k, v1.ownBlock = some k → v2.ownBlock ≠ some k ∧ v4.ownBlock ≠ some k from fun k hk => ⟨fun e => (q1.1 k hk).1 e.symm, fun e => (q1.1 k hk).2 e.symm⟩)
    have SBb := Aside0.mk (show ∀ k, v2.ownBlock = some k → v4.ownBlock ≠ some k from fun k hk e => (q2.1 k hk).2 e.symm)
    have q1 := Rw.of q1 HB.out.size
    have q2 := Rw.of q2 HB.out.size
    have q4 := Rw.of q4 HB.out.size
    have Z811 := Aside0.mk (hb).size
    have P2 := Aside0.mk (blk_below P2.out (hb))
    have P6 := Aside0.mk (blk_below P6.out (hb))
    have P9 := Aside0.mk (blk_below P9.out (hb))
    have QW1 := Aside0.mk (Rw.below QW1.out (hb))
    have QW2 := Aside0.mk (Rw.below QW2.out (hb))
    have QW5 := Aside0.mk (Rw.below QW5.out (hb))
    have QX1 := Aside0.mk (Rw.below QX1.out (hb))
    have QX2 := Aside0.mk (Rw.below QX2.out (hb))
    have HB := Aside0.mk (below_step HB.out (hb))
    clear hb
    have QG1 := Aside0.mk q1
    have QG2 := Aside0.mk q2
    have QG5 := Aside0.mk q4
    clear q1 q2 q4
    obtain ⟨H1, h1_, e0⟩ := Rw.slice QG1.out
    subst e0
    obtain ⟨H2, h2_, e0⟩ := Rw.slice QG2.out
    subst e0
    obtain ⟨H5, h5_, e0⟩ := Rw.slice QG5.out
    subst e0
    have Z912 := Aside0.mk (below_alloc (Below.refl W8.heap.size W8) (.cells #[.int .i64 r1, .slice H1 r2.length h1_, .slice H2 r3.length h2_] 29 (0, 0))).size
    have P2 := Aside0.mk (blk_below P2.out (below_alloc (Below.refl W8.heap.size W8) (.cells #[.int .i64 r1, .slice H1 r2.length h1_, .slice H2 r3.length h2_] 29 (0, 0))))
    have P6 := Aside0.mk (blk_below P6.out (below_alloc (Below.refl W8.heap.size W8) (.cells #[.int .i64 r1, .slice H1 r2.length h1_, .slice H2 r3.length h2_] 29 (0, 0))))
    have P9 := Aside0.mk (blk_below P9.out (below_alloc (Below.refl W8.heap.size W8) (.cells #[.int .i64 r1, .slice H1 r2.length h1_, .slice H2 r3.length h2_] 29 (0, 0))))
    have QW1 := Aside0.mk (Rw.below QW1.out (below_alloc (Below.refl W8.heap.size W8) (.cells #[.int .i64 r1, .slice H1 r2.length h1_, .slice H2 r3.length h2_] 29 (0, 0))))
    have QW2 := Aside0.mk (Rw.below QW2.out (below_alloc (Below.refl W8.heap.size W8) (.cells #[.int .i64 r1, .slice H1 r2.length h1_, .slice H2 r3.length h2_] 29 (0, 0))))
    have QW5 := Aside0.mk (Rw.below QW5.out (below_alloc (Below.refl W8.heap.size W8) (.cells #[.int .i64 r1, .slice H1 r2.length h1_, .slice H2 r3.length h2_] 29 (0, 0))))
    have QX1 := Aside0.mk (Rw.below QX1.out (below_alloc (Below.refl W8.heap.size W8) (.cells #[.int .i64 r1, .slice H1 r2.length h1_, .slice H2 r3.length h2_] 29 (0, 0))))
    have QX2 := Aside0.mk (Rw.below QX2.out (below_alloc (Below.refl W8.heap.size W8) (.cells #[.int .i64 r1, .slice H1 r2.length h1_, .slice H2 r3.length h2_] 29 (0, 0))))
    have QG1 := Aside0.mk (Rw.below QG1.out (below_alloc (Below.refl W8.heap.size W8) (.cells #[.int .i64 r1, .slice H1 r2.length h1_, .slice H2 r3.length h2_] 29 (0, 0))))
    have QG2 := Aside0.mk (Rw.below QG2.out (below_alloc (Below.refl W8.heap.size W8) (.cells #[.int .i64 r1, .slice H1 r2.length h1_, .slice H2 r3.length h2_] 29 (0, 0))))
    have QG5 := Aside0.mk (Rw.below QG5.out (below_alloc (Below.refl W8.heap.size W8) (.cells #[.int .i64 r1, .slice H1 r2.length h1_, .slice H2 r3.length h2_] 29 (0, 0))))
    have HB := Aside0.mk (below_step HB.out (below_alloc (Below.refl W8.heap.size W8) (.cells #[.int .i64 r1, .slice H1 r2.length h1_, .slice H2 r3.length h2_] 29 (0, 0))))
    have P10 := Aside0.mk (blk_new W8 (.cells #[.int .i64 r1, .slice H1 r2.length h1_, .slice H2 r3.length h2_] 29 (0, 0)))
    have ZHb := Aside0.mk (blk_lt P10.out)
    go_wp2_with (first | ((with_reducible refine gate_dst (N := 40) rfl ?_); refine wpList_load_row rfl 29 (.tmp 11) rfl W8.heap.size rfl 29 #[.int .i64 r1, .slice H1 r2.length h1_, .slice H2 r3.length h2_] (0, 0) _ P10.out hu29 rfl (by kernel_rfl) ?_) | ((with_reducible refine gate_dst (N := 41) rfl ?_); refine wpList_load_row rfl 29 (.tmp 8) rfl b6 rfl 29 #[.int .i64 r1, .slice V1 r2.length v1_, .slice V2 r3.length v2_] (0, 0) _ P6.out hu29 rfl (by kernel_rfl) ?_))
    generalize W8.alloc (.cells #[.int .i64 r1, .slice H1 r2.length h1_, .slice H2 r3.length h2_] 29 (0, 0)) = W9 at P10 ZHb Z912 P2 P6 P9 HB QW1 QW2 QW5 QX1 QX2 QG1 QG2 QG5 ⊢
    obtain ⟨b10, hb10⟩ : ∃ b10, b10 = W8.heap.size := ⟨_, rfl⟩
    rw [← hb10] at P10 ZHb ⊢
    have ZLb := Aside0.mk hb10
    clear hb10
    refine (laws_eqLock.calls k r1 H1 h1_ r2 H2 h2_ r3 r1 V1 v1_ r2 V2 v2_ r3 true W9 (QG1.out.reads).2.2 (QG1.out.reads).2.1 (QG2.out.reads).2.2 (QG2.out.reads).2.1 (QW1.out.reads).2.2 (QW1.out.reads).2.1 (QW2.out.reads).2.2 (QW2.out.reads).2.1 HE1.out).mono ?_
    rintro e W10 ⟨rfl, hb⟩
    have Z1015 := Aside0.mk (hb).size
    have P2 := Aside0.mk (blk_below P2.out (hb))
    have P6 := Aside0.mk (blk_below P6.out (hb))
    have P9 := Aside0.mk (blk_below P9.out (hb))
    have P10 := Aside0.mk (blk_below P10.out (hb))
    have QW1 := Aside0.mk (Rw.below QW1.out (hb))
    have QW2 := Aside0.mk (Rw.below QW2.out (hb))
    have QW5 := Aside0.mk (Rw.below QW5.out (hb))
    have QX1 := Aside0.mk (Rw.below QX1.out (hb))
    have QX2 := Aside0.mk (Rw.below QX2.out (hb))
    have QG1 := Aside0.mk (Rw.below QG1.out (hb))
    have QG2 := Aside0.mk (Rw.below QG2.out (hb))
    have QG5 := Aside0.mk (Rw.below QG5.out (hb))
    have HB := Aside0.mk (below_step HB.out (hb))
    clear hb
    go_wp2_with (fail)
    refine (laws_eqHoldS.calls k H5 h5_ r5 V5 v5_ r5 true W10 (QG5.out.reads).2.2 (QG5.out.reads).2.1 (QW5.out.reads).2.2 (QW5.out.reads).2.1 HE2.out).mono ?_
    rintro e W11 ⟨rfl, hb⟩
    have Z1116 := Aside0.mk (hb).size
    have P2 := Aside0.mk (blk_below P2.out (hb))
    have P6 := Aside0.mk (blk_below P6.out (hb))
    have P9 := Aside0.mk (blk_below P9.out (hb))
    have P10 := Aside0.mk (blk_below P10.out (hb))
    have QW1 := Aside0.mk (Rw.below QW1.out (hb))
    have QW2 := Aside0.mk (Rw.below QW2.out (hb))
    have QW5 := Aside0.mk (Rw.below QW5.out (hb))
    have QX1 := Aside0.mk (Rw.below QX1.out (hb))
    have QX2 := Aside0.mk (Rw.below QX2.out (hb))
    have QG1 := Aside0.mk (Rw.below QG1.out (hb))
    have QG2 := Aside0.mk (Rw.below QG2.out (hb))
    have QG5 := Aside0.mk (Rw.below QG5.out (hb))
    have HB := Aside0.mk (below_step HB.out (hb))
    clear hb
    go_wp2_with (fail)
    have ZK11 := Aside0.mk (show w.heap.size < W3.heap.size ∧ W3.heap.size ≤ W4.heap.size ∧ W4.heap.size ≤ b6 ∧ b6 < W5.heap.size ∧ W5.heap.size ≤ W6.heap.size ∧ W6.heap.size ≤ b9 ∧ b9 < W7.heap.size ∧ W7.heap.size ≤ W8.heap.size ∧ W8.heap.size ≤ b10 ∧ b10 < W11.heap.size from ⟨by have := Z1.out; have := Z201.out; have := Z302.out; have := Z403.out; have := Z504.out; have := ZHa.out; have := ZLa.out; have := Z607.out; have := Z708.out; have := ZHn.out; have := ZLn.out; have := Z811.out; have := Z912.out; have := ZHb.out; have := ZLb.out; have := Z1015.out; have := Z1116.out; omega, by have := Z1.out; have := Z201.out; have := Z302.out; have := Z403.out; have := Z504.out; have := ZHa.out; have := ZLa.out; have := Z607.out; have := Z708.out; have := ZHn.out; have := ZLn.out; have := Z811.out; have := Z912.out; have := ZHb.out; have := ZLb.out; have := Z1015.out; have := Z1116.out; omega, by have := Z1.out; have := Z201.out; have := Z302.out; have := Z403.out; have := Z504.out; have := ZHa.out; have := ZLa.out; have := Z607.out; have := Z708.out; have := ZHn.out; have := ZLn.out; have := Z811.out; have := Z912.out; have := ZHb.out; have := ZLb.out; have := Z1015.out; have := Z1116.out; omega, by have := Z1.out; have := Z201.out; have := Z302.out; have := Z403.out; have := Z504.out; have := ZHa.out; have := ZLa.out; have := Z607.out; have := Z708.out; have := ZHn.out; have := ZLn.out; have := Z811.out; have := Z912.out; have := ZHb.out; have := ZLb.out; have := Z1015.out; have := Z1116.out; omega, by have := Z1.out; have := Z201.out; have := Z302.out; have := Z403.out; have := Z504.out; have := ZHa.out; have := ZLa.out; have := Z607.out; have := Z708.out; have := ZHn.out; have := ZLn.out; have := Z811.out; have := Z912.out; have := ZHb.out; have := ZLb.out; have := Z1015.out; have := Z1116.out; omega, by have := Z1.out; have := Z201.out; have := Z302.out; have := Z403.out; have := Z504.out; have := ZHa.out; have := ZLa.out; have := Z607.out; have := Z708.out; have := ZHn.out; have := ZLn.out; have := Z811.out; have := Z912.out; have := ZHb.out; have := ZLb.out; have := Z1015.out; have := Z1116.out; omega, by have := Z1.out; have := Z201.out; have := Z302.out; have := Z403.out; have := Z504.out; have := ZHa.out; have := ZLa.out; have := Z607.out; have := Z708.out; have := ZHn.out; have := ZLn.out; have := Z811.out; have := Z912.out; have := ZHb.out; have := ZLb.out; have := Z1015.out; have := Z1116.out; omega, by have := Z1.out; have := Z201.out; have := Z302.out; have := Z403.out; have := Z504.out; have := ZHa.out; have := ZLa.out; have := Z607.out; have := Z708.out; have := ZHn.out; have := ZLn.out; have := Z811.out; have := Z912.out; have := ZHb.out; have := ZLb.out; have := Z1015.out; have := Z1116.out; omega, by have := Z1.out; have := Z201.out; have := Z302.out; have := Z403.out; have := Z504.out; have := ZHa.out; have := ZLa.out; have := Z607.out; have := Z708.out; have := ZHn.out; have := ZLn.out; have := Z811.out; have := Z912.out; have := ZHb.out; have := ZLb.out; have := Z1015.out; have := Z1116.out; omega, by have := Z1.out; have := Z201.out; have := Z302.out; have := Z403.out; have := Z504.out; have := ZHa.out; have := ZLa.out; have := Z607.out; have := Z708.out; have := ZHn.out; have := ZLn.out; have := Z811.out; have := Z912.out; have := ZHb.out; have := ZLb.out; have := Z1015.out; have := Z1116.out; omega⟩)
    clear Z1 Z201 Z302 Z403 Z504 ZHa ZLa Z607 Z708 ZHn ZLn Z811 Z912 ZHb ZLb Z1015 Z1116
    have P2 := Aside0.mk (blk_drew P2.out)
    have P6 := Aside0.mk (blk_drew P6.out)
    have P9 := Aside0.mk (blk_drew P9.out)
    have P10 := Aside0.mk (blk_drew P10.out)
    have QW1 := Aside0.mk (show Rw _ _ _ _ _ _ from Kd.R_drew QW1.out)
    have QW2 := Aside0.mk (show Rw _ _ _ _ _ _ from Kd.R_drew QW2.out)
    have QW5 := Aside0.mk (show Rw _ _ _ _ _ _ from Kd.R_drew QW5.out)
    have QX1 := Aside0.mk (show Rw _ _ _ _ _ _ from Kd.R_drew QX1.out)
    have QX2 := Aside0.mk (show Rw _ _ _ _ _ _ from Kd.R_drew QX2.out)
    have QG1 := Aside0.mk (show Rw _ _ _ _ _ _ from Kd.R_drew QG1.out)
    have QG2 := Aside0.mk (show Rw _ _ _ _ _ _ from Kd.R_drew QG2.out)
    have QG5 := Aside0.mk (show Rw _ _ _ _ _ _ from Kd.R_drew QG5.out)
    have HB := Aside0.mk (below_drew1 HB.out)
    have HSS := (show (W11.drew).heap[b9]? = some (.cells #[.int .i64 s, .slice XA L1.length xa, .slice XB L2.length xb] 29 (0, 0)) ∧ (W11.drew).heap[w.heap.size]? = some (.cells #[.int .i64 s, .slice A1 l1.length c1, .slice A2 l2.length c2] 24 (0, 0)) from ⟨P9.out, P2.out⟩)
    refine start_ (n := 5) (S := fun w' => w'.heap[b9]? = some (.cells #[.int .i64 s, .slice XA L1.length xa, .slice XB L2.length xb] 29 (0, 0)) ∧ w'.heap[w.heap.size]? = some (.cells #[.int .i64 s, .slice A1 l1.length c1, .slice A2 l2.length c2] 24 (0, 0))) (ds := []) (bt_ 5 0) (by kernel_rfl) rfl rfl HSS (fun hHeld => ?_)
    have Zy : Aside0 (W11.heap.size ≤ (W11.drew).heap.size) := ⟨Nat.le_refl _⟩
    clear HSS
    generalize W11.drew = W12 at P2 P6 P9 P10 QW1 QW2 QW5 QX1 QX2 QG1 QG2 QG5 HB Zy hHeld ⊢
    refine ld_ 0 (some 50) (bt_ 5 1) b9 29 (.tmp 10) #[.int .i64 s, .slice XA L1.length xa, .slice XB L2.length xb] _ (by kernel_rfl) hHeld (fun _ h_ => h_.1) hu29 rfl (by kernel_rfl) ?_
    refine ld_ 1 (some 51) (bt_ 5 3) w.heap.size 24 (.tmp 3) #[.int .i64 s, .slice A1 l1.length c1, .slice A2 l2.length c2] _ (by kernel_rfl) hHeld (fun _ h_ => h_.2) hu24 rfl (by kernel_rfl) ?_
    clear hHeld
    refine one_ (i := 2) (N := some 52) (bt_ 5 7) rfl rfl (by kernel_rfl) (by decide) (fun K hK => ?_)
    refine goes_ Try.func17 (by kernel_rfl) rfl #[.agg #[.int .i64 s, .slice A1 l1.length c1, .slice A2 l2.length c2]] (by rfl) rfl rfl (by simp only [List.map_toArray, List.map_cons, List.map_nil]; rfl) ?_
    refine (laws_toLock.calls k s A1 c1 l1 A2 c2 l2 s L1 L2 W12 (Kd.C_below HR1.out HB.out) HC1.out (Kd.C_below HR2.out HB.out) HC2.out HTO.out).mono ?_
    rintro e W13 ⟨va, vb, rfl, qa, qb, hb⟩
    refine ⟨_, rfl, ?_⟩
    obtain ⟨YA, ya, e0⟩ := Kd.R_slice qa
    subst e0
    obtain ⟨YB, yb, e0⟩ := Kd.R_slice qb
    subst e0
    have q1 := Rw.of qa HB.out.size
    have q2 := Rw.of qb HB.out.size
    clear qa qb
    have Z1302 := Aside0.mk (hb).size
    have P2 := Aside0.mk (blk_below P2.out (hb))
    have P6 := Aside0.mk (blk_below P6.out (hb))
    have P9 := Aside0.mk (blk_below P9.out (hb))
    have P10 := Aside0.mk (blk_below P10.out (hb))
    have QW1 := Aside0.mk (Rw.below QW1.out (hb))
    have QW2 := Aside0.mk (Rw.below QW2.out (hb))
    have QW5 := Aside0.mk (Rw.below QW5.out (hb))
    have QX1 := Aside0.mk (Rw.below QX1.out (hb))
    have QX2 := Aside0.mk (Rw.below QX2.out (hb))
    have QG1 := Aside0.mk (Rw.below QG1.out (hb))
    have QG2 := Aside0.mk (Rw.below QG2.out (hb))
    have QG5 := Aside0.mk (Rw.below QG5.out (hb))
    have HB := Aside0.mk (below_step HB.out (hb))
    clear hb
    have QY1 := Aside0.mk q1
    have QY2 := Aside0.mk q2
    clear q1 q2
    refine hK.out _ _ ⟨P9.out, P2.out⟩ (fun hHeld => ?_)
    clear hK K hHeld
    refine norm_ (a' := ?_) ?_ ?_
    rotate_left
    · show Act.put _ (some 52) _ = _
      simp only [Act.put, List.setIfInBounds_toArray, List.set_cons_zero, List.set_cons_succ, i64_w, i32_w]
      rfl
    refine one_ (i := 3) (N := some 53) (bt_ 5 15) rfl rfl (by kernel_rfl) (by decide) (fun K hK => ?_)
    refine goes_ Try.func19 (by kernel_rfl) rfl #[.agg #[.int .i64 s, .slice XA L1.length xa, .slice XB L2.length xb], .agg #[.int .i64 s, .slice YA L1.length ya, .slice YB L2.length yb]] (by rfl) rfl rfl (by simp only [List.map_toArray, List.map_cons, List.map_nil]; rfl) ?_
    refine (laws_eqLock.calls k s XA xa L1 XB xb L2 s YA ya L1 YB yb L2 true W13 (QX1.out.reads).2.2 (QX1.out.reads).2.1 (QX2.out.reads).2.2 (QX2.out.reads).2.1 (QY1.out.reads).2.2 (QY1.out.reads).2.1 (QY2.out.reads).2.2 (QY2.out.reads).2.1 HE3.out).mono ?_
    rintro e W14 ⟨rfl, hb⟩
    have Z1403 := Aside0.mk (hb).size
    have P2 := Aside0.mk (blk_below P2.out (hb))
    have P6 := Aside0.mk (blk_below P6.out (hb))
    have P9 := Aside0.mk (blk_below P9.out (hb))
    have P10 := Aside0.mk (blk_below P10.out (hb))
    have QW1 := Aside0.mk (Rw.below QW1.out (hb))
    have QW2 := Aside0.mk (Rw.below QW2.out (hb))
    have QW5 := Aside0.mk (Rw.below QW5.out (hb))
    have QX1 := Aside0.mk (Rw.below QX1.out (hb))
    have QX2 := Aside0.mk (Rw.below QX2.out (hb))
    have QG1 := Aside0.mk (Rw.below QG1.out (hb))
    have QG2 := Aside0.mk (Rw.below QG2.out (hb))
    have QG5 := Aside0.mk (Rw.below QG5.out (hb))
    have QY1 := Aside0.mk (Rw.below QY1.out (hb))
    have QY2 := Aside0.mk (Rw.below QY2.out (hb))
    have HB := Aside0.mk (below_step HB.out (hb))
    clear hb
    refine ⟨_, rfl, ?_⟩
    refine hK.out _ _ ⟨P9.out, P2.out⟩ (fun hHeld => ?_)
    clear hK K hHeld
    refine norm_ (a' := ?_) ?_ ?_
    rotate_left
    · show Act.put _ (some 53) _ = _
      simp only [Act.put, List.setIfInBounds_toArray, List.set_cons_zero, List.set_cons_succ, i64_w, i32_w]
      rfl
    refine pu_ 4 (some 54) (bt_ 5 31) (by kernel_rfl) ?_
    refine done_ (by kernel_rfl) ?_
    clear QY1 QY2
    go_wp2_with (((with_reducible refine gate_dst (N := 55) rfl ?_); refine wpList_load_row rfl 29 (.tmp 10) rfl b9 rfl 29 #[.int .i64 s, .slice XA L1.length xa, .slice XB L2.length xb] (0, 0) _ P9.out hu29 rfl (by kernel_rfl) ?_))
    refine (laws_markLock.calls k s (fun k_ => (.slice XA L1.length xa : Value).ownBlock = some k_ ∧ W5.heap.size ≤ k_ ∧ k_ < W6.heap.size) (.slice XA L1.length xa) L1 (fun k_ => (.slice XB L2.length xb : Value).ownBlock = some k_ ∧ W5.heap.size ≤ k_ ∧ k_ < W6.heap.size) (.slice XB L2.length xb) L2 1 m1 X1 X2 w W14 HB.out QX1.out (fun k_ h1 h2 => SX.out k_ h1.1 h2.1) QX2.out (fun k_ h2 h1 => SX.out k_ h1.1 h2.1) HMX.out).mono ?_
    rintro e W15 ⟨rfl, g1, g2, hb, hk⟩
    have Z2015 := Aside0.mk hk.1
    have P2 := Aside0.mk (blk_kept P2.out hk (fun h_ => by (try rcases h_ with h_ | h_) <;> (have a1 := h_.2.1; have a2 := h_.2.2; have := ZK11.out; have := Zy.out; have := Z1302.out; have := Z1403.out; have := Z2015.out; omega)))
    have P6 := Aside0.mk (blk_kept P6.out hk (fun h_ => by (try rcases h_ with h_ | h_) <;> (have a1 := h_.2.1; have a2 := h_.2.2; have := ZK11.out; have := Zy.out; have := Z1302.out; have := Z1403.out; have := Z2015.out; omega)))
    have P9 := Aside0.mk (blk_kept P9.out hk (fun h_ => by (try rcases h_ with h_ | h_) <;> (have a1 := h_.2.1; have a2 := h_.2.2; have := ZK11.out; have := Zy.out; have := Z1302.out; have := Z1403.out; have := Z2015.out; omega)))
    have P10 := Aside0.mk (blk_kept P10.out hk (fun h_ => by (try rcases h_ with h_ | h_) <;> (have a1 := h_.2.1; have a2 := h_.2.2; have := ZK11.out; have := Zy.out; have := Z1302.out; have := Z1403.out; have := Z2015.out; omega)))
    have QW1 := Aside0.mk (Rw.kept QW1.out hk (fun k_ b1 b2 h_ => by (try rcases h_ with h_ | h_) <;> (have a1 := h_.2.1; have a2 := h_.2.2; have := ZK11.out; have := Zy.out; have := Z1302.out; have := Z1403.out; have := Z2015.out; omega)))
    have QW2 := Aside0.mk (Rw.kept QW2.out hk (fun k_ b1 b2 h_ => by (try rcases h_ with h_ | h_) <;> (have a1 := h_.2.1; have a2 := h_.2.2; have := ZK11.out; have := Zy.out; have := Z1302.out; have := Z1403.out; have := Z2015.out; omega)))
    have QW5 := Aside0.mk (Rw.kept QW5.out hk (fun k_ b1 b2 h_ => by (try rcases h_ with h_ | h_) <;> (have a1 := h_.2.1; have a2 := h_.2.2; have := ZK11.out; have := Zy.out; have := Z1302.out; have := Z1403.out; have := Z2015.out; omega)))
    have QG1 := Aside0.mk (Rw.kept QG1.out hk (fun k_ b1 b2 h_ => by (try rcases h_ with h_ | h_) <;> (have a1 := h_.2.1; have a2 := h_.2.2; have := ZK11.out; have := Zy.out; have := Z1302.out; have := Z1403.out; have := Z2015.out; omega)))
    have QG2 := Aside0.mk (Rw.kept QG2.out hk (fun k_ b1 b2 h_ => by (try rcases h_ with h_ | h_) <;> (have a1 := h_.2.1; have a2 := h_.2.2; have := ZK11.out; have := Zy.out; have := Z1302.out; have := Z1403.out; have := Z2015.out; omega)))
    have QG5 := Aside0.mk (Rw.kept QG5.out hk (fun k_ b1 b2 h_ => by (try rcases h_ with h_ | h_) <;> (have a1 := h_.2.1; have a2 := h_.2.2; have := ZK11.out; have := Zy.out; have := Z1302.out; have := Z1403.out; have := Z2015.out; omega)))
    have HB := Aside0.mk hb
    clear hb hk
    clear g1 g2
    clear QX1 QX2
    have hmd : decide (m1 < 0) = false := decide_eq_false (by have := HMX0.out; omega)
    have hx0 := (blk_cell P10.out 0).trans (show _ = some (.int .i64 r1) from rfl)
    have hx1 := (blk_cell P10.out 1).trans (show _ = some (.slice H1 r2.length h1_) from rfl)
    have hx2 := (blk_cell P10.out 2).trans (show _ = some (.slice H2 r3.length h2_) from rfl)
    have hy0 := (blk_cell P6.out 0).trans (show _ = some (.int .i64 r1) from rfl)
    have hy1 := (blk_cell P6.out 1).trans (show _ = some (.slice V1 r2.length v1_) from rfl)
    have hy2 := (blk_cell P6.out 2).trans (show _ = some (.slice V2 r3.length v2_) from rfl)
    go_wp2_with (fail)
    clear hx0 hx1 hx2 hy0 hy1 hy2
    refine (laws_eqLock.calls k r1 H1 h1_ r2 H2 h2_ r3 r1 V1 v1_ r2 V2 v2_ r3 true W15 (QG1.out.reads).2.2 (QG1.out.reads).2.1 (QG2.out.reads).2.2 (QG2.out.reads).2.1 (QW1.out.reads).2.2 (QW1.out.reads).2.1 (QW2.out.reads).2.2 (QW2.out.reads).2.1 HE1.out).mono ?_
    rintro e W16 ⟨rfl, hb⟩
    have Z1605 := Aside0.mk (hb).size
    have P2 := Aside0.mk (blk_below P2.out (hb))
    have P6 := Aside0.mk (blk_below P6.out (hb))
    have P9 := Aside0.mk (blk_below P9.out (hb))
    have P10 := Aside0.mk (blk_below P10.out (hb))
    have QW1 := Aside0.mk (Rw.below QW1.out (hb))
    have QW2 := Aside0.mk (Rw.below QW2.out (hb))
    have QW5 := Aside0.mk (Rw.below QW5.out (hb))
    have QG1 := Aside0.mk (Rw.below QG1.out (hb))
    have QG2 := Aside0.mk (Rw.below QG2.out (hb))
    have QG5 := Aside0.mk (Rw.below QG5.out (hb))
    have HB := Aside0.mk (below_step HB.out (hb))
    clear hb
    go_wp2_with (fail)
    refine (laws_eqHoldS.calls k H5 h5_ r5 V5 v5_ r5 true W16 (QG5.out.reads).2.2 (QG5.out.reads).2.1 (QW5.out.reads).2.2 (QW5.out.reads).2.1 HE2.out).mono ?_
    rintro e W17 ⟨rfl, hb⟩
    have Z1706 := Aside0.mk (hb).size
    have P2 := Aside0.mk (blk_below P2.out (hb))
    have P6 := Aside0.mk (blk_below P6.out (hb))
    have P9 := Aside0.mk (blk_below P9.out (hb))
    have P10 := Aside0.mk (blk_below P10.out (hb))
    have QW1 := Aside0.mk (Rw.below QW1.out (hb))
    have QW2 := Aside0.mk (Rw.below QW2.out (hb))
    have QW5 := Aside0.mk (Rw.below QW5.out (hb))
    have QG1 := Aside0.mk (Rw.below QG1.out (hb))
    have QG2 := Aside0.mk (Rw.below QG2.out (hb))
    have QG5 := Aside0.mk (Rw.below QG5.out (hb))
    have HB := Aside0.mk (below_step HB.out (hb))
    clear hb
    go_wp2_with (((with_reducible refine gate_dst (N := 72) rfl ?_); refine wpList_load_row rfl 29 (.tmp 11) rfl b10 rfl 29 #[.int .i64 r1, .slice H1 r2.length h1_, .slice H2 r3.length h2_] (0, 0) _ P10.out hu29 rfl (by kernel_rfl) ?_))
    clear hmd
    have ZK17 := Aside0.mk (show w.heap.size < W3.heap.size ∧ W3.heap.size ≤ W4.heap.size ∧ W4.heap.size ≤ b6 ∧ b6 < W5.heap.size ∧ W5.heap.size ≤ W6.heap.size ∧ W6.heap.size ≤ b9 ∧ b9 < W7.heap.size ∧ W7.heap.size ≤ W8.heap.size ∧ W8.heap.size ≤ b10 ∧ b10 < W17.heap.size from ⟨by have := ZK11.out; have := Zy.out; have := Z1302.out; have := Z1403.out; have := Z2015.out; have := Z1605.out; have := Z1706.out; omega, by have := ZK11.out; have := Zy.out; have := Z1302.out; have := Z1403.out; have := Z2015.out; have := Z1605.out; have := Z1706.out; omega, by have := ZK11.out; have := Zy.out; have := Z1302.out; have := Z1403.out; have := Z2015.out; have := Z1605.out; have := Z1706.out; omega, by have := ZK11.out; have := Zy.out; have := Z1302.out; have := Z1403.out; have := Z2015.out; have := Z1605.out; have := Z1706.out; omega, by have := ZK11.out; have := Zy.out; have := Z1302.out; have := Z1403.out; have := Z2015.out; have := Z1605.out; have := Z1706.out; omega, by have := ZK11.out; have := Zy.out; have := Z1302.out; have := Z1403.out; have := Z2015.out; have := Z1605.out; have := Z1706.out; omega, by have := ZK11.out; have := Zy.out; have := Z1302.out; have := Z1403.out; have := Z2015.out; have := Z1605.out; have := Z1706.out; omega, by have := ZK11.out; have := Zy.out; have := Z1302.out; have := Z1403.out; have := Z2015.out; have := Z1605.out; have := Z1706.out; omega, by have := ZK11.out; have := Zy.out; have := Z1302.out; have := Z1403.out; have := Z2015.out; have := Z1605.out; have := Z1706.out; omega, by have := ZK11.out; have := Zy.out; have := Z1302.out; have := Z1403.out; have := Z2015.out; have := Z1605.out; have := Z1706.out; omega⟩)
    clear ZK11 Zy Z1302 Z1403 Z2015 Z1605 Z1706
    refine (laws_markLock.calls k r1 (fun k_ => (.slice H1 r2.length h1_ : Value).ownBlock = some k_ ∧ W7.heap.size ≤ k_ ∧ k_ < W8.heap.size) (.slice H1 r2.length h1_) r2 (fun k_ => (.slice H2 r3.length h2_ : Value).ownBlock = some k_ ∧ W7.heap.size ≤ k_ ∧ k_ < W8.heap.size) (.slice H2 r3.length h2_) r3 1 n1 G1 G2 w W17 HB.out QG1.out (fun k_ h1 h2 => (SAb.out k_ h1.1).1 h2.1) QG2.out (fun k_ h2 h1 => (SAb.out k_ h1.1).1 h2.1) HMG.out).mono ?_
    rintro e W18 ⟨rfl, g1, g2, hb, hk⟩
    have g1 := Aside0.mk (show Rw w.heap.size W18 W7.heap.size W8.heap.size (.slice H1 r2.length h1_) G1 from Rw.own_ g1 (fun k_ hk_ => ⟨hk_, QG1.out.at_ hk_⟩))
    have g2 := Aside0.mk (show Rw w.heap.size W18 W7.heap.size W8.heap.size (.slice H2 r3.length h2_) G2 from Rw.own_ g2 (fun k_ hk_ => ⟨hk_, QG2.out.at_ hk_⟩))
    have Z2018 := Aside0.mk hk.1
    have QG5 := Aside0.mk (show Rw _ _ _ _ _ _ from Kd.R_kept QG5.out hk (fun k_ b1 h_ => h_.elim (fun h_ => (SAb.out k_ h_.1).2 b1.1) (fun h_ => SBb.out k_ h_.1 b1.1)))
    have P2 := Aside0.mk (blk_kept P2.out hk (fun h_ => by (try rcases h_ with h_ | h_) <;> (have a1 := h_.2.1; have a2 := h_.2.2; have := ZK17.out; have := Z2018.out; omega)))
    have P6 := Aside0.mk (blk_kept P6.out hk (fun h_ => by (try rcases h_ with h_ | h_) <;> (have a1 := h_.2.1; have a2 := h_.2.2; have := ZK17.out; have := Z2018.out; omega)))
    have P9 := Aside0.mk (blk_kept P9.out hk (fun h_ => by (try rcases h_ with h_ | h_) <;> (have a1 := h_.2.1; have a2 := h_.2.2; have := ZK17.out; have := Z2018.out; omega)))
    have P10 := Aside0.mk (blk_kept P10.out hk (fun h_ => by (try rcases h_ with h_ | h_) <;> (have a1 := h_.2.1; have a2 := h_.2.2; have := ZK17.out; have := Z2018.out; omega)))
    have QW1 := Aside0.mk (Rw.kept QW1.out hk (fun k_ b1 b2 h_ => by (try rcases h_ with h_ | h_) <;> (have a1 := h_.2.1; have a2 := h_.2.2; have := ZK17.out; have := Z2018.out; omega)))
    have QW2 := Aside0.mk (Rw.kept QW2.out hk (fun k_ b1 b2 h_ => by (try rcases h_ with h_ | h_) <;> (have a1 := h_.2.1; have a2 := h_.2.2; have := ZK17.out; have := Z2018.out; omega)))
    have QW5 := Aside0.mk (Rw.kept QW5.out hk (fun k_ b1 b2 h_ => by (try rcases h_ with h_ | h_) <;> (have a1 := h_.2.1; have a2 := h_.2.2; have := ZK17.out; have := Z2018.out; omega)))
    have HB := Aside0.mk hb
    clear hb hk
    have QG1 := g1
    have QG2 := g2
    clear g1 g2
    go_wp2_with (fail)
    refine (laws_markHoldS.calls k (fun k_ => (.slice H5 r5.length h5_ : Value).ownBlock = some k_ ∧ W7.heap.size ≤ k_ ∧ k_ < W8.heap.size) (.slice H5 r5.length h5_) r5 n1 n2 G5 w W18 HB.out QG5.out HMH.out).mono ?_
    rintro e W19 ⟨rfl, g1, hb, hk⟩
    have g1 := Aside0.mk (show Rw w.heap.size W19 W7.heap.size W8.heap.size (.slice H5 r5.length h5_) G5 from Rw.own_ g1 (fun k_ hk_ => ⟨hk_, QG5.out.at_ hk_⟩))
    have Z2019 := Aside0.mk hk.1
    have P2 := Aside0.mk (blk_kept P2.out hk (fun h_ => by have a1 := h_.2.1; have a2 := h_.2.2; have := ZK17.out; have := Z2018.out; have := Z2019.out; omega))
    have P6 := Aside0.mk (blk_kept P6.out hk (fun h_ => by have a1 := h_.2.1; have a2 := h_.2.2; have := ZK17.out; have := Z2018.out; have := Z2019.out; omega))
    have P9 := Aside0.mk (blk_kept P9.out hk (fun h_ => by have a1 := h_.2.1; have a2 := h_.2.2; have := ZK17.out; have := Z2018.out; have := Z2019.out; omega))
    have P10 := Aside0.mk (blk_kept P10.out hk (fun h_ => by have a1 := h_.2.1; have a2 := h_.2.2; have := ZK17.out; have := Z2018.out; have := Z2019.out; omega))
    have QW1 := Aside0.mk (Rw.kept QW1.out hk (fun k_ b1 b2 h_ => by have a1 := h_.2.1; have a2 := h_.2.2; have := ZK17.out; have := Z2018.out; have := Z2019.out; omega))
    have QW2 := Aside0.mk (Rw.kept QW2.out hk (fun k_ b1 b2 h_ => by have a1 := h_.2.1; have a2 := h_.2.2; have := ZK17.out; have := Z2018.out; have := Z2019.out; omega))
    have QW5 := Aside0.mk (Rw.kept QW5.out hk (fun k_ b1 b2 h_ => by have a1 := h_.2.1; have a2 := h_.2.2; have := ZK17.out; have := Z2018.out; have := Z2019.out; omega))
    have QG1 := Aside0.mk (show Rw _ _ _ _ _ _ from Kd.R_kept QG1.out hk (fun k_ b1 h_ => (SAb.out k_ b1.1).2 h_.1))
    have QG2 := Aside0.mk (show Rw _ _ _ _ _ _ from Kd.R_kept QG2.out hk (fun k_ b1 h_ => SBb.out k_ b1.1 h_.1))
    have HB := Aside0.mk hb
    have QG5 := g1
    clear hb hk g1
    go_wp2_with (((with_reducible refine gate_dst (N := 78) rfl ?_); refine wpList_load_row rfl 29 (.tmp 11) rfl b10 rfl 29 #[.int .i64 r1, .slice H1 r2.length h1_, .slice H2 r3.length h2_] (0, 0) _ P10.out hu29 rfl (by kernel_rfl) ?_))
    have ZK19 := Aside0.mk (show w.heap.size < W3.heap.size ∧ W3.heap.size ≤ W4.heap.size ∧ W4.heap.size ≤ b6 ∧ b6 < W5.heap.size ∧ W5.heap.size ≤ W6.heap.size ∧ W6.heap.size ≤ b9 ∧ b9 < W7.heap.size ∧ W7.heap.size ≤ W8.heap.size ∧ W8.heap.size ≤ b10 ∧ b10 < W19.heap.size from ⟨by have := ZK17.out; have := Z2018.out; have := Z2019.out; omega, by have := ZK17.out; have := Z2018.out; have := Z2019.out; omega, by have := ZK17.out; have := Z2018.out; have := Z2019.out; omega, by have := ZK17.out; have := Z2018.out; have := Z2019.out; omega, by have := ZK17.out; have := Z2018.out; have := Z2019.out; omega, by have := ZK17.out; have := Z2018.out; have := Z2019.out; omega, by have := ZK17.out; have := Z2018.out; have := Z2019.out; omega, by have := ZK17.out; have := Z2018.out; have := Z2019.out; omega, by have := ZK17.out; have := Z2018.out; have := Z2019.out; omega, by have := ZK17.out; have := Z2018.out; have := Z2019.out; omega⟩)
    clear ZK17 Z2018 Z2019
    have hc_ := laws_heldLock.calls k r1 H1 h1_ G1 H2 h2_ G2 1 n1 W19 (QG1.out.reads).2.2 (by rw [HG1.out]; exact (QG1.out.reads).2.1) (QG2.out.reads).2.2 (by rw [HG2.out]; exact (QG2.out.reads).2.1) HHG.out
    rw [HG1.out, HG2.out] at hc_
    refine hc_.mono ?_
    clear hc_
    rintro e W20 ⟨rfl, hb⟩
    have Z2001 := Aside0.mk (hb).size
    have P2 := Aside0.mk (blk_below P2.out (hb))
    have P6 := Aside0.mk (blk_below P6.out (hb))
    have P9 := Aside0.mk (blk_below P9.out (hb))
    have P10 := Aside0.mk (blk_below P10.out (hb))
    have QW1 := Aside0.mk (Rw.below QW1.out (hb))
    have QW2 := Aside0.mk (Rw.below QW2.out (hb))
    have QW5 := Aside0.mk (Rw.below QW5.out (hb))
    have QG1 := Aside0.mk (Rw.below QG1.out (hb))
    have QG2 := Aside0.mk (Rw.below QG2.out (hb))
    have QG5 := Aside0.mk (Rw.below QG5.out (hb))
    have HB := Aside0.mk (below_step HB.out (hb))
    clear hb
    have hnd : decide (n1 < 0) = false := decide_eq_false (by have := HN1.out; omega)
    go_wp2_with (fail)
    clear hnd
    have hc_ := laws_heldHoldS.calls k H5 h5_ G5 n1 n2 W20 (QG5.out.reads).2.2 (by rw [HG5.out]; exact (QG5.out.reads).2.1) HHH.out
    rw [HG5.out] at hc_
    refine hc_.mono ?_
    clear hc_
    rintro e wz_ ⟨rfl, ⟨nd, rfl⟩⟩
    have hb := pw_below_drewN (Below.refl W20.heap.size W20) nd
    generalize W20.drewN nd = W21 at hb ⊢
    have Z2102 := Aside0.mk (hb).size
    have P2 := Aside0.mk (blk_below P2.out (hb))
    have P6 := Aside0.mk (blk_below P6.out (hb))
    have P9 := Aside0.mk (blk_below P9.out (hb))
    have P10 := Aside0.mk (blk_below P10.out (hb))
    have QW1 := Aside0.mk (Rw.below QW1.out (hb))
    have QW2 := Aside0.mk (Rw.below QW2.out (hb))
    have QW5 := Aside0.mk (Rw.below QW5.out (hb))
    have QG1 := Aside0.mk (Rw.below QG1.out (hb))
    have QG2 := Aside0.mk (Rw.below QG2.out (hb))
    have QG5 := Aside0.mk (Rw.below QG5.out (hb))
    have HB := Aside0.mk (below_step HB.out (hb))
    clear hb
    have hnd : decide (n2 < 0) = false := decide_eq_false (by have := HN2.out; omega)
    go_wp2_with (((with_reducible refine gate_dst (N := 92) rfl ?_); refine wpList_load_row rfl 24 (.tmp 3) rfl w.heap.size rfl 24 #[.int .i64 s, .slice A1 l1.length c1, .slice A2 l2.length c2] (0, 0) _ P2.out hu24 rfl (by kernel_rfl) ?_))
    clear hnd
    have ZK21 := Aside0.mk (show w.heap.size < W3.heap.size ∧ W3.heap.size ≤ W4.heap.size ∧ W4.heap.size ≤ b6 ∧ b6 < W5.heap.size ∧ W5.heap.size ≤ W6.heap.size ∧ W6.heap.size ≤ b9 ∧ b9 < W7.heap.size ∧ W7.heap.size ≤ W8.heap.size ∧ W8.heap.size ≤ b10 ∧ b10 < W21.heap.size from ⟨by have := ZK19.out; have := Z2001.out; have := Z2102.out; omega, by have := ZK19.out; have := Z2001.out; have := Z2102.out; omega, by have := ZK19.out; have := Z2001.out; have := Z2102.out; omega, by have := ZK19.out; have := Z2001.out; have := Z2102.out; omega, by have := ZK19.out; have := Z2001.out; have := Z2102.out; omega, by have := ZK19.out; have := Z2001.out; have := Z2102.out; omega, by have := ZK19.out; have := Z2001.out; have := Z2102.out; omega, by have := ZK19.out; have := Z2001.out; have := Z2102.out; omega, by have := ZK19.out; have := Z2001.out; have := Z2102.out; omega, by have := ZK19.out; have := Z2001.out; have := Z2102.out; omega⟩)
    clear ZK19 Z2001 Z2102
    refine (laws_toLock.calls k s A1 c1 l1 A2 c2 l2 s L1 L2 W21 (Kd.C_below HR1.out HB.out) HC1.out (Kd.C_below HR2.out HB.out) HC2.out HTO.out).mono ?_
    rintro e W22 ⟨va, vb, rfl, qa, qb, hb⟩
    obtain ⟨UA, ua, e0⟩ := Kd.R_slice qa
    subst e0
    obtain ⟨UB, ub, e0⟩ := Kd.R_slice qb
    subst e0
    have q1 := Rw.of qa HB.out.size
    have q2 := Rw.of qb HB.out.size
    have SX := Aside0.mk (show ∀ k, (Value.slice UA L1.length ua).ownBlock = some k → (Value.slice UB L2.length ub).ownBlock ≠ some k from fun k hk e => (qa.1 k hk) e.symm)
    clear qa qb
    have Z2201 := Aside0.mk (hb).size
    have P2 := Aside0.mk (blk_below P2.out (hb))
    have P6 := Aside0.mk (blk_below P6.out (hb))
    have P9 := Aside0.mk (blk_below P9.out (hb))
    have P10 := Aside0.mk (blk_below P10.out (hb))
    have QW1 := Aside0.mk (Rw.below QW1.out (hb))
    have QW2 := Aside0.mk (Rw.below QW2.out (hb))
    have QW5 := Aside0.mk (Rw.below QW5.out (hb))
    have QG1 := Aside0.mk (Rw.below QG1.out (hb))
    have QG2 := Aside0.mk (Rw.below QG2.out (hb))
    have QG5 := Aside0.mk (Rw.below QG5.out (hb))
    have HB := Aside0.mk (below_step HB.out (hb))
    clear hb
    have QA := Aside0.mk q1
    have QB := Aside0.mk q2
    clear q1 q2
    go_wp2_with (fail)
    refine (free_calls s UA ua L1 UB ub L2 st ty r1 r2 r3 r5 W22 (QA.out.reads).2.2 (QA.out.reads).2.1 (QB.out.reads).2.2 (QB.out.reads).2.1 HLL.out.1 HLL.out.2 HASK.out).mono ?_
    rintro e W23 ⟨v1, v2, v4, rfl, q1, q2, q4, hb⟩
    have SAc := Aside0.mk (show ∀ k, v1.ownBlock = some k → v2.ownBlock ≠ some k ∧ v4.ownBlock ≠ some k from fun k hk => ⟨fun e => (q1.1 k hk).1 e.symm, fun e => (q1.1 k hk).2 e.symm⟩)
    have SBc := Aside0.mk (show ∀ k, v2.ownBlock = some k → v4.ownBlock ≠ some k from fun k hk e => (q2.1 k hk).2 e.symm)
    have q1 := Rw.of q1 HB.out.size
    have q2 := Rw.of q2 HB.out.size
    have q4 := Rw.of q4 HB.out.size
    have Z2302 := Aside0.mk (hb).size
    have P2 := Aside0.mk (blk_below P2.out (hb))
    have P6 := Aside0.mk (blk_below P6.out (hb))
    have P9 := Aside0.mk (blk_below P9.out (hb))
    have P10 := Aside0.mk (blk_below P10.out (hb))
    have QW1 := Aside0.mk (Rw.below QW1.out (hb))
    have QW2 := Aside0.mk (Rw.below QW2.out (hb))
    have QW5 := Aside0.mk (Rw.below QW5.out (hb))
    have QG1 := Aside0.mk (Rw.below QG1.out (hb))
    have QG2 := Aside0.mk (Rw.below QG2.out (hb))
    have QG5 := Aside0.mk (Rw.below QG5.out (hb))
    have QA := Aside0.mk (Rw.below QA.out (hb))
    have QB := Aside0.mk (Rw.below QB.out (hb))
    have HB := Aside0.mk (below_step HB.out (hb))
    clear hb
    have QM1 := Aside0.mk q1
    have QM2 := Aside0.mk q2
    have QM5 := Aside0.mk q4
    clear q1 q2 q4
    obtain ⟨M1, m1_, e0⟩ := Rw.slice QM1.out
    subst e0
    obtain ⟨M2, m2_, e0⟩ := Rw.slice QM2.out
    subst e0
    obtain ⟨M5, m5_, e0⟩ := Rw.slice QM5.out
    subst e0
    have Z2403 := Aside0.mk (below_alloc (Below.refl W23.heap.size W23) (.cells #[.int .i64 r1, .slice M1 r2.length m1_, .slice M2 r3.length m2_] 29 (0, 0))).size
    have P2 := Aside0.mk (blk_below P2.out (below_alloc (Below.refl W23.heap.size W23) (.cells #[.int .i64 r1, .slice M1 r2.length m1_, .slice M2 r3.length m2_] 29 (0, 0))))
    have P6 := Aside0.mk (blk_below P6.out (below_alloc (Below.refl W23.heap.size W23) (.cells #[.int .i64 r1, .slice M1 r2.length m1_, .slice M2 r3.length m2_] 29 (0, 0))))
    have P9 := Aside0.mk (blk_below P9.out (below_alloc (Below.refl W23.heap.size W23) (.cells #[.int .i64 r1, .slice M1 r2.length m1_, .slice M2 r3.length m2_] 29 (0, 0))))
    have P10 := Aside0.mk (blk_below P10.out (below_alloc (Below.refl W23.heap.size W23) (.cells #[.int .i64 r1, .slice M1 r2.length m1_, .slice M2 r3.length m2_] 29 (0, 0))))
    have QW1 := Aside0.mk (Rw.below QW1.out (below_alloc (Below.refl W23.heap.size W23) (.cells #[.int .i64 r1, .slice M1 r2.length m1_, .slice M2 r3.length m2_] 29 (0, 0))))
    have QW2 := Aside0.mk (Rw.below QW2.out (below_alloc (Below.refl W23.heap.size W23) (.cells #[.int .i64 r1, .slice M1 r2.length m1_, .slice M2 r3.length m2_] 29 (0, 0))))
    have QW5 := Aside0.mk (Rw.below QW5.out (below_alloc (Below.refl W23.heap.size W23) (.cells #[.int .i64 r1, .slice M1 r2.length m1_, .slice M2 r3.length m2_] 29 (0, 0))))
    have QG1 := Aside0.mk (Rw.below QG1.out (below_alloc (Below.refl W23.heap.size W23) (.cells #[.int .i64 r1, .slice M1 r2.length m1_, .slice M2 r3.length m2_] 29 (0, 0))))
    have QG2 := Aside0.mk (Rw.below QG2.out (below_alloc (Below.refl W23.heap.size W23) (.cells #[.int .i64 r1, .slice M1 r2.length m1_, .slice M2 r3.length m2_] 29 (0, 0))))
    have QG5 := Aside0.mk (Rw.below QG5.out (below_alloc (Below.refl W23.heap.size W23) (.cells #[.int .i64 r1, .slice M1 r2.length m1_, .slice M2 r3.length m2_] 29 (0, 0))))
    have QA := Aside0.mk (Rw.below QA.out (below_alloc (Below.refl W23.heap.size W23) (.cells #[.int .i64 r1, .slice M1 r2.length m1_, .slice M2 r3.length m2_] 29 (0, 0))))
    have QB := Aside0.mk (Rw.below QB.out (below_alloc (Below.refl W23.heap.size W23) (.cells #[.int .i64 r1, .slice M1 r2.length m1_, .slice M2 r3.length m2_] 29 (0, 0))))
    have QM1 := Aside0.mk (Rw.below QM1.out (below_alloc (Below.refl W23.heap.size W23) (.cells #[.int .i64 r1, .slice M1 r2.length m1_, .slice M2 r3.length m2_] 29 (0, 0))))
    have QM2 := Aside0.mk (Rw.below QM2.out (below_alloc (Below.refl W23.heap.size W23) (.cells #[.int .i64 r1, .slice M1 r2.length m1_, .slice M2 r3.length m2_] 29 (0, 0))))
    have QM5 := Aside0.mk (Rw.below QM5.out (below_alloc (Below.refl W23.heap.size W23) (.cells #[.int .i64 r1, .slice M1 r2.length m1_, .slice M2 r3.length m2_] 29 (0, 0))))
    have HB := Aside0.mk (below_step HB.out (below_alloc (Below.refl W23.heap.size W23) (.cells #[.int .i64 r1, .slice M1 r2.length m1_, .slice M2 r3.length m2_] 29 (0, 0))))
    have P16 := Aside0.mk (blk_new W23 (.cells #[.int .i64 r1, .slice M1 r2.length m1_, .slice M2 r3.length m2_] 29 (0, 0)))
    have ZHc := Aside0.mk (blk_lt P16.out)
    go_wp2_with (first | ((with_reducible refine gate_dst (N := 99) rfl ?_); refine wpList_load_row rfl 29 (.tmp 16) rfl W23.heap.size rfl 29 #[.int .i64 r1, .slice M1 r2.length m1_, .slice M2 r3.length m2_] (0, 0) _ P16.out hu29 rfl (by kernel_rfl) ?_) | ((with_reducible refine gate_dst (N := 100) rfl ?_); refine wpList_load_row rfl 29 (.tmp 8) rfl b6 rfl 29 #[.int .i64 r1, .slice V1 r2.length v1_, .slice V2 r3.length v2_] (0, 0) _ P6.out hu29 rfl (by kernel_rfl) ?_))
    generalize W23.alloc (.cells #[.int .i64 r1, .slice M1 r2.length m1_, .slice M2 r3.length m2_] 29 (0, 0)) = W24 at P16 ZHc Z2403 P2 P6 P9 P10 HB QW1 QW2 QW5 QG1 QG2 QG5 QA QB QM1 QM2 QM5 ⊢
    obtain ⟨b16, hb16⟩ : ∃ b16, b16 = W23.heap.size := ⟨_, rfl⟩
    rw [← hb16] at P16 ZHc ⊢
    have ZLc := Aside0.mk hb16
    clear hb16
    refine (laws_eqLock.calls k r1 M1 m1_ r2 M2 m2_ r3 r1 V1 v1_ r2 V2 v2_ r3 true W24 (QM1.out.reads).2.2 (QM1.out.reads).2.1 (QM2.out.reads).2.2 (QM2.out.reads).2.1 (QW1.out.reads).2.2 (QW1.out.reads).2.1 (QW2.out.reads).2.2 (QW2.out.reads).2.1 HE1.out).mono ?_
    rintro e W25 ⟨rfl, hb⟩
    have Z2506 := Aside0.mk (hb).size
    have P2 := Aside0.mk (blk_below P2.out (hb))
    have P6 := Aside0.mk (blk_below P6.out (hb))
    have P9 := Aside0.mk (blk_below P9.out (hb))
    have P10 := Aside0.mk (blk_below P10.out (hb))
    have P16 := Aside0.mk (blk_below P16.out (hb))
    have QW1 := Aside0.mk (Rw.below QW1.out (hb))
    have QW2 := Aside0.mk (Rw.below QW2.out (hb))
    have QW5 := Aside0.mk (Rw.below QW5.out (hb))
    have QG1 := Aside0.mk (Rw.below QG1.out (hb))
    have QG2 := Aside0.mk (Rw.below QG2.out (hb))
    have QG5 := Aside0.mk (Rw.below QG5.out (hb))
    have QA := Aside0.mk (Rw.below QA.out (hb))
    have QB := Aside0.mk (Rw.below QB.out (hb))
    have QM1 := Aside0.mk (Rw.below QM1.out (hb))
    have QM2 := Aside0.mk (Rw.below QM2.out (hb))
    have QM5 := Aside0.mk (Rw.below QM5.out (hb))
    have HB := Aside0.mk (below_step HB.out (hb))
    clear hb
    go_wp2_with (fail)
    refine (laws_eqHoldS.calls k M5 m5_ r5 V5 v5_ r5 true W25 (QM5.out.reads).2.2 (QM5.out.reads).2.1 (QW5.out.reads).2.2 (QW5.out.reads).2.1 HE2.out).mono ?_
    rintro e W26 ⟨rfl, hb⟩
    have Z2607 := Aside0.mk (hb).size
    have P2 := Aside0.mk (blk_below P2.out (hb))
    have P6 := Aside0.mk (blk_below P6.out (hb))
    have P9 := Aside0.mk (blk_below P9.out (hb))
    have P10 := Aside0.mk (blk_below P10.out (hb))
    have P16 := Aside0.mk (blk_below P16.out (hb))
    have QW1 := Aside0.mk (Rw.below QW1.out (hb))
    have QW2 := Aside0.mk (Rw.below QW2.out (hb))
    have QW5 := Aside0.mk (Rw.below QW5.out (hb))
    have QG1 := Aside0.mk (Rw.below QG1.out (hb))
    have QG2 := Aside0.mk (Rw.below QG2.out (hb))
    have QG5 := Aside0.mk (Rw.below QG5.out (hb))
    have QA := Aside0.mk (Rw.below QA.out (hb))
    have QB := Aside0.mk (Rw.below QB.out (hb))
    have QM1 := Aside0.mk (Rw.below QM1.out (hb))
    have QM2 := Aside0.mk (Rw.below QM2.out (hb))
    have QM5 := Aside0.mk (Rw.below QM5.out (hb))
    have HB := Aside0.mk (below_step HB.out (hb))
    clear hb
    go_wp2_with (((with_reducible refine gate_dst (N := 109) rfl ?_); refine wpList_load_row rfl 29 (.tmp 11) rfl b10 rfl 29 #[.int .i64 r1, .slice H1 r2.length h1_, .slice H2 r3.length h2_] (0, 0) _ P10.out hu29 rfl (by kernel_rfl) ?_))
    have hc_ := laws_heldLock.calls k r1 H1 h1_ G1 H2 h2_ G2 1 n1 W26 (QG1.out.reads).2.2 (by rw [HG1.out]; exact (QG1.out.reads).2.1) (QG2.out.reads).2.2 (by rw [HG2.out]; exact (QG2.out.reads).2.1) HHG.out
    rw [HG1.out, HG2.out] at hc_
    refine hc_.mono ?_
    clear hc_
    rintro e W27 ⟨rfl, hb⟩
    have Z2708 := Aside0.mk (hb).size
    have P2 := Aside0.mk (blk_below P2.out (hb))
    have P6 := Aside0.mk (blk_below P6.out (hb))
    have P9 := Aside0.mk (blk_below P9.out (hb))
    have P10 := Aside0.mk (blk_below P10.out (hb))
    have P16 := Aside0.mk (blk_below P16.out (hb))
    have QW1 := Aside0.mk (Rw.below QW1.out (hb))
    have QW2 := Aside0.mk (Rw.below QW2.out (hb))
    have QW5 := Aside0.mk (Rw.below QW5.out (hb))
    have QG1 := Aside0.mk (Rw.below QG1.out (hb))
    have QG2 := Aside0.mk (Rw.below QG2.out (hb))
    have QG5 := Aside0.mk (Rw.below QG5.out (hb))
    have QA := Aside0.mk (Rw.below QA.out (hb))
    have QB := Aside0.mk (Rw.below QB.out (hb))
    have QM1 := Aside0.mk (Rw.below QM1.out (hb))
    have QM2 := Aside0.mk (Rw.below QM2.out (hb))
    have QM5 := Aside0.mk (Rw.below QM5.out (hb))
    have HB := Aside0.mk (below_step HB.out (hb))
    clear hb
    have hnd : decide (n1 < 0) = false := decide_eq_false (by have := HN1.out; omega)
    go_wp2_with (fail)
    clear hnd
    have hc_ := laws_heldHoldS.calls k H5 h5_ G5 n1 n2 W27 (QG5.out.reads).2.2 (by rw [HG5.out]; exact (QG5.out.reads).2.1) HHH.out
    rw [HG5.out] at hc_
    refine hc_.mono ?_
    clear hc_
    rintro e wz_ ⟨rfl, ⟨nd, rfl⟩⟩
    have hb := pw_below_drewN (Below.refl W27.heap.size W27) nd
    generalize W27.drewN nd = W28 at hb ⊢
    have Z2809 := Aside0.mk (hb).size
    have P2 := Aside0.mk (blk_below P2.out (hb))
    have P6 := Aside0.mk (blk_below P6.out (hb))
    have P9 := Aside0.mk (blk_below P9.out (hb))
    have P10 := Aside0.mk (blk_below P10.out (hb))
    have P16 := Aside0.mk (blk_below P16.out (hb))
    have QW1 := Aside0.mk (Rw.below QW1.out (hb))
    have QW2 := Aside0.mk (Rw.below QW2.out (hb))
    have QW5 := Aside0.mk (Rw.below QW5.out (hb))
    have QG1 := Aside0.mk (Rw.below QG1.out (hb))
    have QG2 := Aside0.mk (Rw.below QG2.out (hb))
    have QG5 := Aside0.mk (Rw.below QG5.out (hb))
    have QA := Aside0.mk (Rw.below QA.out (hb))
    have QB := Aside0.mk (Rw.below QB.out (hb))
    have QM1 := Aside0.mk (Rw.below QM1.out (hb))
    have QM2 := Aside0.mk (Rw.below QM2.out (hb))
    have QM5 := Aside0.mk (Rw.below QM5.out (hb))
    have HB := Aside0.mk (below_step HB.out (hb))
    clear hb
    have hnd : decide (n2 < 0) = false := decide_eq_false (by have := HN2.out; omega)
    go_wp2_with (fail)
    clear hnd
    go_ret
    exact ⟨rfl, HB.out⟩
/-- What remains: the facts of the plain law. -/
def laws_FnExactLockFree.Pure : Prop := ∀ (s : Int) (l1 l2 : List S42) (st ty : Int), B24 (⟨s, l1, l2⟩ : S24) → ((Lit.int .i64 st).wf = true) → ((Lit.int .i64 ty).wf = true) → ∃ (k : Nat) (z : Int), laws_szLock.f s l1 l2 1048576 = some z ∧ (¬ z < 0 → FreeFacts k s l1 l2 st ty)
theorem laws_FnExactLockFree.walk (P : laws_FnExactLockFree.Pure) (a0_0 : Int) (A0_1 : Option Addr) (c0_1 : Nat) (l0_1 : List (S42)) (A0_2 : Option Addr) (c0_2 : Nat) (l0_2 : List (S42)) (a1 : Int) (a2 : Int) (w : World) (hr0_1 : Kd.C k42 w A0_1 l0_1.length l0_1) (hc0_1 : l0_1.length ≤ c0_1) (hr0_2 : Kd.C k42 w A0_2 l0_2.length l0_2) (hc0_2 : l0_2.length ≤ c0_2) (w0 : B24 (⟨a0_0, l0_1, l0_2⟩ : S24)) (w1 : (Lit.int .i64 a1).wf = true) (w2 : (Lit.int .i64 a2).wf = true) :
    Calls Try.prog 5 #[.agg #[.int .i64 a0_0, .slice A0_1 l0_1.length c0_1, .slice A0_2 l0_2.length c0_2], .int .i64 a1, .int .i64 a2] w fun e w' => e = .returned (.bool true) ∧ Below w.heap.size w w' := by
  obtain ⟨k, z, h1, h2⟩ := P a0_0 l0_1 l0_2 a1 a2 w0 w1 w2
  exact lawf_main k a0_0 A0_1 c0_1 l0_1 A0_2 c0_2 l0_2 a1 a2 z w hr0_1 hc0_1 hr0_2 hc0_2 h1 h2
end Go.Proofs.Ytjldpnhlegbjkaa.PA
