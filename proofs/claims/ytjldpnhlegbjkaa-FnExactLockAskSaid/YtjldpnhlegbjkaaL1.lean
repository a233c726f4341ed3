/- The law FnExactLockAsk, walked by hand. -/
import Derived.Test.YtjldpnhlegbjkaaS6
import Derived.Test.YtjldpnhlegbjkaaPAx0
import Derived.Test.YtjldpnhlegbjkaaPAx3
import Derived.Test.YtjldpnhlegbjkaaPAx4
import Derived.Test.YtjldpnhlegbjkaaPAx6
import Derived.Test.YtjldpnhlegbjkaaPAx7
import Derived.Test.YtjldpnhlegbjkaaPAx8
import Derived.Test.YtjldpnhlegbjkaaPAx9
import Derived.Test.YtjldpnhlegbjkaaPAx10
import Derived.Test.YtjldpnhlegbjkaaPAx11
import Derived.Test.YtjldpnhlegbjkaaPAx12
namespace Go.Proofs.Ytjldpnhlegbjkaa.PA
open Go.RowKit Go.Proofs.YtjldpnhlegbjkaaW.PrintWords Go.Proofs.YtjldpnhlegbjkaaW.PrintLast Go.Proofs.YtjldpnhlegbjkaaW.PrintMore
attribute [local go_sem] max2_int min2_int max_two min_two max_three min_three max_four min_four
set_option linter.unusedVariables false
set_option linter.unusedSimpArgs false

def B42 (x : S42) : Prop := ((Lit.int .i64 x.f0).wf = true) ∧ ((Lit.int .i64 x.f1).wf = true) ∧ (True) ∧ (True)
theorem rd42_ (W : World) : RdOf Try.prog W k42 42 B42 := by
 intro H enc fuel cs y h
 obtain ⟨xs, n, _, _, hlen, hxl, hg⟩ := DataW.trod_struct Try.underlying42 h
 have hlen : cs.length = 4 := hlen.trans (by kernel_rfl)
 have hxl : xs.length = 4 := hxl
 obtain ⟨y0, e0⟩ := nth_some (j := 0) hxl (by omega)
 have g0 : DataW.trod enc Try.prog W 0 (fun _ => true) true n 3 ((cs.drop 0).take (Try.prog.cellsOf 3)) = xs[0]? := hg 0 _ rfl
 have z0 : Try.prog.cellsOf 3 = 1 := by kernel_rfl
 rw [z0, e0] at g0
 obtain ⟨x0, k0_, b0_⟩ := (RdOf.int Try.underlying3) enc n _ _ g0
 obtain ⟨y1, e1⟩ := nth_some (j := 1) hxl (by omega)
 have g1 : DataW.trod enc Try.prog W 0 (fun _ => true) true n 3 ((cs.drop 1).take (Try.prog.cellsOf 3)) = xs[1]? := hg 1 _ rfl
 have z1 : Try.prog.cellsOf 3 = 1 := by kernel_rfl
 rw [z1, e1] at g1
 obtain ⟨x1, k1_, b1_⟩ := (RdOf.int Try.underlying3) enc n _ _ g1
 obtain ⟨y2, e2⟩ := nth_some (j := 2) hxl (by omega)
 have g2 : DataW.trod enc Try.prog W 0 (fun _ => true) true n 4 ((cs.drop 2).take (Try.prog.cellsOf 4)) = xs[2]? := hg 2 _ rfl
 have z2 : Try.prog.cellsOf 4 = 1 := by kernel_rfl
 rw [z2, e2] at g2
 obtain ⟨x2, k2_, b2_⟩ := (RdOf.bool Try.underlying4) enc n _ _ g2
 obtain ⟨y3, e3⟩ := nth_some (j := 3) hxl (by omega)
 have g3 : DataW.trod enc Try.prog W 0 (fun _ => true) true n 4 ((cs.drop 3).take (Try.prog.cellsOf 4)) = xs[3]? := hg 3 _ rfl
 have z3 : Try.prog.cellsOf 4 = 1 := by kernel_rfl
 rw [z3, e3] at g3
 obtain ⟨x3, k3_, b3_⟩ := (RdOf.bool Try.underlying4) enc n _ _ g3
 have hk := (seg_pair 0 1 3 k0_ (seg_pair 1 1 2 k1_ (seg_pair 2 1 1 k2_ k3_)))
 rw [seg_all hlen] at hk
 exact ⟨⟨x0, x1, x2, x3⟩, hk, b0_, b1_, b2_, b3_⟩
def B24 (x : S24) : Prop := ((Lit.int .i64 x.f0).wf = true) ∧ ((x.f1.length ≤ maxLen ∧ ∀ y_ ∈ x.f1, B42 y_)) ∧ ((x.f2.length ≤ maxLen ∧ ∀ y_ ∈ x.f2, B42 y_))
theorem rd24_ (W : World) : RdOf Try.prog W k24 24 B24 := by
 intro H enc fuel cs y h
 obtain ⟨xs, n, _, _, hlen, hxl, hg⟩ := DataW.trod_struct Try.underlying24 h
 have hlen : cs.length = 3 := hlen.trans (by kernel_rfl)
 have hxl : xs.length = 3 := hxl
 obtain ⟨y0, e0⟩ := nth_some (j := 0) hxl (by omega)
 have g0 : DataW.trod enc Try.prog W 0 (fun _ => true) true n 3 ((cs.drop 0).take (Try.prog.cellsOf 3)) = xs[0]? := hg 0 _ rfl
 have z0 : Try.prog.cellsOf 3 = 1 := by kernel_rfl
 rw [z0, e0] at g0
 obtain ⟨x0, k0_, b0_⟩ := (RdOf.int Try.underlying3) enc n _ _ g0
 obtain ⟨y1, e1⟩ := nth_some (j := 1) hxl (by omega)
 have g1 : DataW.trod enc Try.prog W 0 (fun _ => true) true n 22 ((cs.drop 1).take (Try.prog.cellsOf 22)) = xs[1]? := hg 1 _ rfl
 have z1 : Try.prog.cellsOf 22 = 1 := by kernel_rfl
 rw [z1, e1] at g1
 obtain ⟨x1, k1_, b1_⟩ := (RdOf.slice Try.underlying22 (by kernel_rfl) (rd42_ W)) enc n _ _ g1
 obtain ⟨y2, e2⟩ := nth_some (j := 2) hxl (by omega)
 have g2 : DataW.trod enc Try.prog W 0 (fun _ => true) true n 22 ((cs.drop 2).take (Try.prog.cellsOf 22)) = xs[2]? := hg 2 _ rfl
 have z2 : Try.prog.cellsOf 22 = 1 := by kernel_rfl
 rw [z2, e2] at g2
 obtain ⟨x2, k2_, b2_⟩ := (RdOf.slice Try.underlying22 (by kernel_rfl) (rd42_ W)) enc n _ _ g2
 have hk := (seg_pair 0 1 2 k0_ (seg_pair 1 1 1 k1_ k2_))
 rw [seg_all hlen] at hk
 exact ⟨⟨x0, x1, x2⟩, hk, b0_, b1_, b2_⟩

def AskFacts (k : Nat) (s : Int) (l1 l2 : List S42) (a b : Int) (c d : Bool) : Prop := ∃ (L1 L2 : List S45) (r1 : Int) (r2 r3 : List S45) (r4 : Bool) (r5 : List S45) (m1 : Int) (X1 X2 : List S45) (n1 : Int) (G1 G2 : List S45) (n2 : Int) (G5 : List S45),
  laws_toLock.f k s l1 l2 = some (s, L1, L2) ∧ (L1.length ≤ 1048576 ∧ L2.length ≤ 1048576) ∧ askF s L1 L2 ⟨a, b, c, d⟩ = (r1, r2, r3, r4, r5) ∧ laws_eqLock.f k r1 r2 r3 r1 r2 r3 = some true ∧ laws_eqHoldS.f k r5 r5 = some true ∧ laws_eqLock.f k s L1 L2 s L1 L2 = some true ∧
  (laws_markLock.f k s L1 L2 1 = some (m1, X1, X2) ∧ ¬ m1 < 0) ∧ laws_markLock.f k r1 r2 r3 1 = some (n1, G1, G2) ∧ laws_markHoldS.f k r5 n1 = some (n2, G5) ∧ (laws_heldLock.f k r1 G1 G2 1 = some n1 ∧ ¬ n1 < 0) ∧ (laws_heldHoldS.f k G5 n1 = some n2 ∧ ¬ n2 < 0) ∧ G1.length = r2.length ∧ G2.length = r3.length ∧ G5.length = r5.length
/-- A row of one's own: the block that it owns lies in a range. -/
def Row (w0 : Nat) (w : World) (lo hi : Nat) (v : Value) (l : List S45) : Prop := k45.R 45 w w0 (fun k => v.ownBlock = some k ∧ lo ≤ k ∧ k < hi) v l
theorem Row.of {w0 lo : Nat} {w : World} {ok : Nat → Prop} {v : Value} {l : List S45} (h : k45.R 45 w lo ok v l) (h0 : w0 ≤ lo) : Row w0 w lo w.heap.size v l :=
  Kd.R_lower (R4_own (Kd.R_bound h) (fun k hk => ⟨hk, ((Kd.R_bound h).1 k hk).2.1, ((Kd.R_bound h).1 k hk).2.2.1⟩)) h0
theorem Row.below {w0 lo hi : Nat} {w w' : World} {v : Value} {l : List S45} (h : Row w0 w lo hi v l) (hb : Below w.heap.size w w') : Row w0 w' lo hi v l := Kd.R_below h hb
theorem Row.at_ {w0 lo hi k : Nat} {w : World} {v : Value} {l : List S45} (h : Row w0 w lo hi v l) (hk : v.ownBlock = some k) : lo ≤ k ∧ k < hi := (h.1 k hk).2
theorem Row.kept {w0 lo hi : Nat} {w w' : World} {D : Nat → Prop} {v : Value} {l : List S45} (h : Row w0 w lo hi v l) (hk : Kept w w' D) (hn : ∀ k, lo ≤ k → k < hi → ¬ D k) : Row w0 w' lo hi v l := Kd.R_kept h hk (fun k ho => hn k ho.2.1 ho.2.2)
theorem Row.wide {w0 lo hi lo' hi' : Nat} {w : World} {v : Value} {l : List S45} (h : Row w0 w lo hi v l) (h1 : lo' ≤ lo) (h2 : hi ≤ hi') : Row w0 w lo' hi' v l := Kd.R_mono h (fun k hk => ⟨hk.1, by omega, by omega⟩)
theorem Row.row {w0 lo hi b : Nat} {w : World} {v : Value} {l : List S45} (h : Row w0 w lo hi v l) (cs : Array Value) (hb : b < lo ∨ hi ≤ b) : Row w0 (w.setRow b cs) lo hi v l :=
  Kd.R_mono (Kd.R_step h (fun k hk _ => setRow_other _ _ _ _ (by have := hk.2; omega))) (fun _ h_ => h_)
theorem Row.sep {w0 lo hi b : Nat} {w : World} {v : Value} {l : List S45} (h : Row w0 w lo hi v l) (cs : Array Value) (hb : v.ownBlock ≠ some b) : Row w0 (w.setRow b cs) lo hi v l :=
  Kd.R_mono (Kd.R_step h (fun k hk _ => setRow_other _ _ _ _ (fun e => hb (by rw [← e]; exact hk.1)))) (fun _ h_ => h_)
theorem Row.slice {w0 lo hi : Nat} {w : World} {v : Value} {l : List S45} (h : Row w0 w lo hi v l) : ∃ A c, v = .slice A l.length c := Kd.R_slice h
theorem Row.reads {w0 lo hi n c : Nat} {w : World} {A : Option Addr} {l : List S45} (h : Row w0 w lo hi (.slice A n c) l) : n = l.length ∧ n ≤ c ∧ Kd.C k45 w A l.length l := Kd.R_reads' h
set_option maxHeartbeats 8000000 in
set_option maxRecDepth 100000 in
theorem law_main (k : Nat) (s : Int) (A1 : Option Addr) (c1 : Nat) (l1 : List S42) (A2 : Option Addr) (c2 : Nat) (l2 : List S42) (a b : Int) (c d : Bool) (z : Int) (w : World) (hr1 : Kd.C k42 w A1 l1.length l1) (hc1 : l1.length ≤ c1) (hr2 : Kd.C k42 w A2 l2.length l2) (hc2 : l2.length ≤ c2)
    (hsz : laws_szLock.f s l1 l2 1048576 = some z) (hm : ¬ z < 0 → AskFacts k s l1 l2 a b c d) : Calls Try.prog 6 #[.agg #[.int .i64 s, .slice A1 l1.length c1, .slice A2 l2.length c2], .agg #[.int .i64 a, .int .i64 b, .bool c, .bool d]] w fun e w' => e = .returned (.bool true) ∧ Below w.heap.size w w' := by
  have hu24 := Try.underlying24
  have hu29 := Try.underlying29
  have hu42 := Try.underlying42
  have hu45 := Try.underlying45
  have HR1 := Aside0.mk hr1
  have HC1 := Aside0.mk hc1
  have HR2 := Aside0.mk hr2
  have HC2 := Aside0.mk hc2
  have HSZ := Aside0.mk hsz
  have HM := Aside0.mk hm
  clear hr1 hc1 hr2 hc2 hsz hm
  have HB := Aside0.mk (below_alloc (below_alloc (Below.refl w.heap.size w) (.cells #[.int .i64 s, .slice A1 l1.length c1, .slice A2 l2.length c2] 24 (0, 0))) (.cells #[.int .i64 a, .int .i64 b, .bool c, .bool d] 42 (0, 0)))
  have P2 := Aside0.mk (blk_alloc (blk_new w (.cells #[.int .i64 s, .slice A1 l1.length c1, .slice A2 l2.length c2] 24 (0, 0))) (.cells #[.int .i64 a, .int .i64 b, .bool c, .bool d] 42 (0, 0)))
  have P3 := Aside0.mk (blk_new (w.alloc (.cells #[.int .i64 s, .slice A1 l1.length c1, .slice A2 l2.length c2] 24 (0, 0))) (.cells #[.int .i64 a, .int .i64 b, .bool c, .bool d] 42 (0, 0)))
  have hs1 : (w.alloc (.cells #[.int .i64 s, .slice A1 l1.length c1, .slice A2 l2.length c2] 24 (0, 0))).heap.size = w.heap.size + 1 := by simp
  rw [hs1] at P3
  clear hs1
  go_enter Try.func6, Try.ntmps6
  go_wp2_with (fail)
  generalize (w.alloc (.cells #[.int .i64 s, .slice A1 l1.length c1, .slice A2 l2.length c2] 24 (0, 0))).alloc (.cells #[.int .i64 a, .int .i64 b, .bool c, .bool d] 42 (0, 0)) = W1 at HB P2 P3 ⊢
  obtain ⟨b3, hb3⟩ : ∃ b3, b3 = w.heap.size + 1 := ⟨_, rfl⟩
  rw [← hb3] at P3 ⊢
  have Z1 := Aside0.mk (show w.heap.size < b3 by omega)
  have Z2 := Aside0.mk (blk_lt P3.out)
  clear hb3
  go_wp2_with (((with_reducible refine gate_dst (N := 19) rfl ?_); refine wpList_load_row rfl 24 (.tmp 2) rfl w.heap.size rfl 24 #[.int .i64 s, .slice A1 l1.length c1, .slice A2 l2.length c2] (0, 0) _ P2.out hu24 rfl (by kernel_rfl) ?_))
  refine (laws_szLock.calls s A1 c1 l1 A2 c2 l2 1048576 z W1 (Kd.C_below HR1.out HB.out) HC1.out (Kd.C_below HR2.out HB.out) HC2.out HSZ.out).mono ?_
  rintro e W2 ⟨rfl, hb⟩
  have Z202 := Aside0.mk (hb).size
  have P2 := Aside0.mk (blk_below P2.out hb)
  have P3 := Aside0.mk (blk_below P3.out hb)
  have HB := Aside0.mk (below_step HB.out hb)
  clear hb
  by_cases hz : z < 0
  · have hzd : decide (z < 0) = true := decide_eq_true hz
    go_wp2_with (fail)
    go_ret
    exact ⟨rfl, HB.out⟩
  · obtain ⟨L1, L2, r1, r2, r3, r4, r5, m1, X1, X2, n1, G1, G2, n2, G5, f1, f3, f4, f5, f6, f7, ⟨f8, f9⟩, f10, f11, ⟨f12, f13⟩, ⟨f14, f15⟩, f16, f17, f18⟩ := HM.out (by omega)
    have HTO := Aside0.mk f1
    have HLL := Aside0.mk f3
    have HASK := Aside0.mk f4
    have HE1 := Aside0.mk f5
    have HE2 := Aside0.mk f6
    have HE3 := Aside0.mk f7
    have HMX := Aside0.mk f8
    have HMX0 := Aside0.mk f9
    have HMG := Aside0.mk f10
    have HMH := Aside0.mk f11
    have HHG := Aside0.mk f12
    have HN1 := Aside0.mk f13
    have HHH := Aside0.mk f14
    have HN2 := Aside0.mk f15
    have HG1 := Aside0.mk f16
    have HG2 := Aside0.mk f17
    have HG5 := Aside0.mk f18
    clear f1 f3 f4 f5 f6 f7 f8 f9 f10 f11 f12 f13 f14 f15 f16 f17 f18 HM
    have hzd : decide (z < 0) = false := decide_eq_false hz
    go_wp2_with (fail)
    clear hzd hz
    have P2 := Aside0.mk (blk_drew P2.out)
    have P3 := Aside0.mk (blk_drew P3.out)
    have HB := Aside0.mk (below_drew1 HB.out)
    have HSS := (show (W2.drew).heap[w.heap.size]? = some (.cells #[.int .i64 s, .slice A1 l1.length c1, .slice A2 l2.length c2] 24 (0, 0)) ∧ (W2.drew).heap[b3]? = some (.cells #[.int .i64 a, .int .i64 b, .bool c, .bool d] 42 (0, 0)) from ⟨P2.out, P3.out⟩)
    refine start_ (n := 13) (S := fun w' => w'.heap[w.heap.size]? = some (.cells #[.int .i64 s, .slice A1 l1.length c1, .slice A2 l2.length c2] 24 (0, 0)) ∧ w'.heap[b3]? = some (.cells #[.int .i64 a, .int .i64 b, .bool c, .bool d] 42 (0, 0))) (ds := []) (bt_ 13 0) (by kernel_rfl) rfl rfl HSS (fun hHeld => ?_)
    have Za : Aside0 (W2.heap.size ≤ (W2.drew).heap.size) := ⟨Nat.le_refl _⟩
    clear HSS
    generalize W2.drew = W3 at P2 P3 HB Za hHeld ⊢
    refine ld_ 0 (some 25) (bt_ 13 1) w.heap.size 24 (.tmp 2) #[.int .i64 s, .slice A1 l1.length c1, .slice A2 l2.length c2] _ (by kernel_rfl) hHeld (fun _ h_ => h_.1) hu24 rfl (by kernel_rfl) ?_
    refine ld_ 2 (some 27) (bt_ 13 5) b3 42 (.tmp 3) #[.int .i64 a, .int .i64 b, .bool c, .bool d] _ (by kernel_rfl) hHeld (fun _ h_ => h_.2) hu42 rfl (by kernel_rfl) ?_
    clear hHeld
    refine join_ (σ := Value × Value × Value × Value × Value × Nat) 3 (bt_ 13 1023) (fun s_ => [(26, .agg #[.int .i64 s, s_.1, s_.2.1]), (28, .agg #[.int .i64 a, .int .i64 b, .bool c, .bool d]), (29, .tuple #[.agg #[.int .i64 r1, s_.2.2.1, s_.2.2.2.1], .bool r4, s_.2.2.2.2.1]), (6, .pointer (some ⟨s_.2.2.2.2.2, 0, none⟩)), (24, .tuple #[.agg #[.int .i64 r1, s_.2.2.1, s_.2.2.2.1], .bool r4, s_.2.2.2.2.1]), (30, .agg #[.int .i64 r1, s_.2.2.1, s_.2.2.2.1]), (31, .bool r4), (32, s_.2.2.2.2.1)]) (fun s_ wr => Below W3.heap.size W3 wr ∧ wr.heap[s_.2.2.2.2.2]? = some (.cells #[.int .i64 0, .slice none 0 0, .slice none 0 0] 29 (0, 0)) ∧ W3.heap.size ≤ s_.2.2.2.2.2 ∧ Row w.heap.size wr W3.heap.size wr.heap.size s_.2.2.1 r2 ∧ Row w.heap.size wr W3.heap.size wr.heap.size s_.2.2.2.1 r3 ∧ Row w.heap.size wr W3.heap.size wr.heap.size s_.2.2.2.2.1 r5 ∧ ((s_.2.2.1 : Value).ownBlock ≠ some s_.2.2.2.2.2 ∧ (s_.2.2.2.1 : Value).ownBlock ≠ some s_.2.2.2.2.2 ∧ (s_.2.2.2.2.1 : Value).ownBlock ≠ some s_.2.2.2.2.2) ∧ (∀ k, (s_.2.2.1 : Value).ownBlock = some k → (s_.2.2.2.1 : Value).ownBlock ≠ some k ∧ (s_.2.2.2.2.1 : Value).ownBlock ≠ some k) ∧ (∀ k, (s_.2.2.2.1 : Value).ownBlock = some k → (s_.2.2.2.2.1 : Value).ownBlock ≠ some k)) ?_ ?_
    rotate_left
    · intro hCont
      have HR0 := Aside0.mk (Below.refl W3.heap.size W3)
      have HW := HB
      refine two_ (i := 1) (j := 9) (Ni := some 26) (Nj := some 6) (bt_ 13 7) (bt_ 13 517) rfl rfl rfl rfl (by kernel_rfl) (by decide) (by decide) (fun K hK => ?_) (fun K hK => ?_)
      · refine goes_ Try.func17 (by kernel_rfl) rfl #[.agg #[.int .i64 s, .slice A1 l1.length c1, .slice A2 l2.length c2]] (by rfl) rfl rfl (by simp only [List.map_toArray, List.map_cons, List.map_nil]; rfl) ?_
        refine (laws_toLock.calls k s A1 c1 l1 A2 c2 l2 s L1 L2 W3 (Kd.C_below HR1.out HW.out) HC1.out (Kd.C_below HR2.out HW.out) HC2.out HTO.out).mono ?_
        rintro e W4 ⟨va, vb, rfl, qa, qb, hb⟩
        refine ⟨_, rfl, ?_⟩
        obtain ⟨TA, ta, e0⟩ := Kd.R_slice qa
        subst e0
        obtain ⟨TB, tb, e0⟩ := Kd.R_slice qb
        subst e0
        have QA := Aside0.mk (Row.of qa HW.out.size)
        have QB := Aside0.mk (Row.of qb HW.out.size)
        clear qa qb
        have z4 := Aside0.mk hb.size
        have HR0 := Aside0.mk (below_step HR0.out hb)
        have HW := Aside0.mk (below_step HW.out hb)
        clear hb
        refine hK.out _ _ ⟨blk_below P2.out HR0.out, blk_below P3.out HR0.out⟩ (fun hHeld => ?_)
        clear hK K hHeld
        refine norm_ (a' := ?_) ?_ ?_
        rotate_left
        · show Act.put _ (some 26) _ = _
          simp only [Act.put, List.setIfInBounds_toArray, List.set_cons_zero, List.set_cons_succ, i64_w, i32_w]
          rfl
        refine two_ (i := 3) (j := 9) (Ni := some 28) (Nj := some 6) (bt_ 13 15) (bt_ 13 519) rfl rfl rfl rfl (by kernel_rfl) (by decide) (by decide) (fun K hK => ?_) (fun K hK => ?_)
        · refine goes_ Try.func30 (by kernel_rfl) rfl #[.agg #[.int .i64 a, .int .i64 b, .bool c, .bool d]] (by rfl) rfl rfl (by simp only [List.map_toArray, List.map_cons, List.map_nil]; rfl) ?_
          refine (laws_toHold.calls a b c d a b c d W4 rfl).mono ?_
          rintro e W5 ⟨rfl, hb⟩
          refine ⟨_, rfl, ?_⟩
          have z5 := Aside0.mk hb.size
          have QA := Aside0.mk (Row.below QA.out hb)
          have QB := Aside0.mk (Row.below QB.out hb)
          have HR0 := Aside0.mk (below_step HR0.out hb)
          have HW := Aside0.mk (below_step HW.out hb)
          clear hb
          refine hK.out _ _ ⟨blk_below P2.out HR0.out, blk_below P3.out HR0.out⟩ (fun hHeld => ?_)
          clear hK K hHeld
          refine norm_ (a' := ?_) ?_ ?_
          rotate_left
          · show Act.put _ (some 28) _ = _
            simp only [Act.put, List.setIfInBounds_toArray, List.set_cons_zero, List.set_cons_succ, i64_w, i32_w]
            rfl
          refine two_ (i := 4) (j := 9) (Ni := some 29) (Nj := some 6) (bt_ 13 31) (bt_ 13 527) rfl rfl rfl rfl (by kernel_rfl) (by decide) (by decide) (fun K hK => ?_) (fun K hK => ?_)
          · refine goes_ Try.func29 (by kernel_rfl) rfl #[.agg #[.int .i64 s, .slice TA L1.length ta, .slice TB L2.length tb], .agg #[.int .i64 a, .int .i64 b, .bool c, .bool d]] (by rfl) rfl rfl (by simp only [List.map_toArray, List.map_cons, List.map_nil]; rfl) ?_
            refine (sask_calls s TA ta L1 TB tb L2 ⟨a, b, c, d⟩ r1 r2 r3 r4 r5 W5 (QA.out.reads).2.2 (QA.out.reads).2.1 (QB.out.reads).2.2 (QB.out.reads).2.1 HLL.out.1 HLL.out.2 HASK.out).mono ?_
            rintro e W6 ⟨v1, v2, v4, rfl, q1, q2, q4, hb⟩
            refine ⟨_, rfl, ?_⟩
            have SP1 := Aside0.mk (show ∀ k, v1.ownBlock = some k → v2.ownBlock ≠ some k ∧ v4.ownBlock ≠ some k from fun k hk => ⟨fun e => (q1.1 k hk).1 e.symm, fun e => (q1.1 k hk).2 e.symm⟩)
            have SP2 := Aside0.mk (show ∀ k, v2.ownBlock = some k → v4.ownBlock ≠ some k from fun k hk e => (q2.1 k hk).2 e.symm)
            have Q1 := Aside0.mk (Row.of q1 HW.out.size)
            have Q2 := Aside0.mk (Row.of q2 HW.out.size)
            have Q4 := Aside0.mk (Row.of q4 HW.out.size)
            clear q1 q2 q4
            have z6 := Aside0.mk hb.size
            have QA := Aside0.mk (Row.below QA.out hb)
            have QB := Aside0.mk (Row.below QB.out hb)
            have HR0 := Aside0.mk (below_step HR0.out hb)
            have HW := Aside0.mk (below_step HW.out hb)
            clear hb
            refine hK.out _ _ ⟨blk_below P2.out HR0.out, blk_below P3.out HR0.out⟩ (fun hHeld => ?_)
            clear hK K hHeld
            refine norm_ (a' := ?_) ?_ ?_
            rotate_left
            · show Act.put _ (some 29) _ = _
              simp only [Act.put, List.setIfInBounds_toArray, List.set_cons_zero, List.set_cons_succ, i64_w, i32_w]
              rfl
            refine pu_ 5 (some 24) (bt_ 13 63) (by kernel_rfl) ?_
            refine pu_ 6 (some 30) (bt_ 13 127) (by kernel_rfl) ?_
            refine pu_ 7 (some 31) (bt_ 13 255) (by kernel_rfl) ?_
            refine pu_ 8 (some 32) (bt_ 13 511) (by kernel_rfl) ?_
            refine one_ (i := 9) (N := some 6) (bt_ 13 1023) rfl rfl (by kernel_rfl) (by decide) (fun K hK => ?_)
            refine event_step (v := .pointer (some ⟨W6.heap.size, 0, none⟩)) (w1 := W6.alloc (.cells #[.int .i64 0, .slice none 0 0, .slice none 0 0] 29 (0, 0))) rfl (by first | (go_simp; done) | (go_simp; rfl)) ?_
            have PB := Aside0.mk (blk_new W6 (.cells #[.int .i64 0, .slice none 0 0, .slice none 0 0] 29 (0, 0)))
            have hb := below_alloc (Below.refl W6.heap.size W6) (.cells #[.int .i64 0, .slice none 0 0, .slice none 0 0] 29 (0, 0))
            have GD := Aside0.mk HR0.out.size
            have GH := Aside0.mk (blk_lt PB.out)
            have GZ := Aside0.mk (Nat.le_refl W6.heap.size)
            have Q1 := Aside0.mk (Row.below Q1.out hb)
            have Q2 := Aside0.mk (Row.below Q2.out hb)
            have Q4 := Aside0.mk (Row.below Q4.out hb)
            have HR0 := Aside0.mk (below_step HR0.out hb)
            have HW := Aside0.mk (below_step HW.out hb)
            clear hb
            have GE : Aside0 (W6.heap.size ≤ W6.heap.size) := ⟨Nat.le_refl _⟩
            generalize W6.alloc (.cells #[.int .i64 0, .slice none 0 0, .slice none 0 0] 29 (0, 0)) = W7 at PB GH Q1 Q2 Q4 HR0 HW ⊢
            obtain ⟨bn, hbn⟩ : ∃ bn, bn = W6.heap.size := ⟨_, rfl⟩
            have GD : Aside0 (W3.heap.size ≤ bn) := ⟨by rw [hbn]; exact GD.out⟩
            rw [← hbn] at PB GH ⊢
            have GB := Aside0.mk hbn
            clear hbn
            refine hK.out _ _ ⟨blk_below P2.out HR0.out, blk_below P3.out HR0.out⟩ (fun hHeld => ?_)
            clear hK K hHeld
            refine norm_ (a' := ?_) ?_ ?_
            rotate_left
            · show Act.put _ (some 6) _ = _
              simp only [Act.put, List.setIfInBounds_toArray, List.set_cons_zero, List.set_cons_succ, i64_w, i32_w]
              rfl
            have FF : Below W3.heap.size W3 W7 ∧ W7.heap[bn]? = some (.cells #[.int .i64 0, .slice none 0 0, .slice none 0 0] 29 (0, 0)) ∧ W3.heap.size ≤ bn ∧ Row w.heap.size W7 W3.heap.size W7.heap.size v1 r2 ∧ Row w.heap.size W7 W3.heap.size W7.heap.size v2 r3 ∧ Row w.heap.size W7 W3.heap.size W7.heap.size v4 r5 ∧ ((v1 : Value).ownBlock ≠ some bn ∧ (v2 : Value).ownBlock ≠ some bn ∧ (v4 : Value).ownBlock ≠ some bn) ∧ (∀ k, (v1 : Value).ownBlock = some k → (v2 : Value).ownBlock ≠ some k ∧ (v4 : Value).ownBlock ≠ some k) ∧ (∀ k, (v2 : Value).ownBlock = some k → (v4 : Value).ownBlock ≠ some k) := ⟨HR0.out, PB.out, GD.out, Row.wide Q1.out (by have := z4.out; have := z5.out; have := z6.out; have := GD.out; have := GH.out; have := GB.out; omega) (by have := z4.out; have := z5.out; have := z6.out; have := GD.out; have := GH.out; have := GB.out; omega), Row.wide Q2.out (by have := z4.out; have := z5.out; have := z6.out; have := GD.out; have := GH.out; have := GB.out; omega) (by have := z4.out; have := z5.out; have := z6.out; have := GD.out; have := GH.out; have := GB.out; omega), Row.wide Q4.out (by have := z4.out; have := z5.out; have := z6.out; have := GD.out; have := GH.out; have := GB.out; omega) (by have := z4.out; have := z5.out; have := z6.out; have := GD.out; have := GH.out; have := GB.out; omega), ⟨fun e => by have := Q1.out.at_ e; have := z4.out; have := z5.out; have := z6.out; have := GD.out; have := GH.out; have := GB.out; omega, fun e => by have := Q2.out.at_ e; have := z4.out; have := z5.out; have := z6.out; have := GD.out; have := GH.out; have := GB.out; omega, fun e => by have := Q4.out.at_ e; have := z4.out; have := z5.out; have := z6.out; have := GD.out; have := GH.out; have := GB.out; omega⟩, SP1.out, SP2.out⟩
            exact norm_ (by simp only [putAll, Act.put, List.setIfInBounds_toArray, List.set_cons_zero, List.set_cons_succ]) (hCont ((.slice TA L1.length ta), (.slice TB L2.length tb), v1, v2, v4, bn) _ FF)
          · refine event_step (v := .pointer (some ⟨W5.heap.size, 0, none⟩)) (w1 := W5.alloc (.cells #[.int .i64 0, .slice none 0 0, .slice none 0 0] 29 (0, 0))) rfl (by first | (go_simp; done) | (go_simp; rfl)) ?_
            have PB := Aside0.mk (blk_new W5 (.cells #[.int .i64 0, .slice none 0 0, .slice none 0 0] 29 (0, 0)))
            have hb := below_alloc (Below.refl W5.heap.size W5) (.cells #[.int .i64 0, .slice none 0 0, .slice none 0 0] 29 (0, 0))
            have GD := Aside0.mk HR0.out.size
            have GH := Aside0.mk (blk_lt PB.out)
            have GZ := Aside0.mk (Nat.le_refl W5.heap.size)
            have QA := Aside0.mk (Row.below QA.out hb)
            have QB := Aside0.mk (Row.below QB.out hb)
            have HR0 := Aside0.mk (below_step HR0.out hb)
            have HW := Aside0.mk (below_step HW.out hb)
            clear hb
            have GE : Aside0 (W5.heap.size ≤ W5.heap.size) := ⟨Nat.le_refl _⟩
            generalize W5.alloc (.cells #[.int .i64 0, .slice none 0 0, .slice none 0 0] 29 (0, 0)) = W8 at PB GH QA QB HR0 HW ⊢
            obtain ⟨bn, hbn⟩ : ∃ bn, bn = W5.heap.size := ⟨_, rfl⟩
            have GD : Aside0 (W3.heap.size ≤ bn) := ⟨by rw [hbn]; exact GD.out⟩
            rw [← hbn] at PB GH ⊢
            have GB := Aside0.mk hbn
            clear hbn
            refine hK.out _ _ ⟨blk_below P2.out HR0.out, blk_below P3.out HR0.out⟩ (fun hHeld => ?_)
            clear hK K hHeld
            refine norm_ (a' := ?_) ?_ ?_
            rotate_left
            · show Act.put _ (some 6) _ = _
              simp only [Act.put, List.setIfInBounds_toArray, List.set_cons_zero, List.set_cons_succ, i64_w, i32_w]
              rfl
            refine one_ (i := 4) (N := some 29) (bt_ 13 543) rfl rfl (by kernel_rfl) (by decide) (fun K hK => ?_)
            refine goes_ Try.func29 (by kernel_rfl) rfl #[.agg #[.int .i64 s, .slice TA L1.length ta, .slice TB L2.length tb], .agg #[.int .i64 a, .int .i64 b, .bool c, .bool d]] (by rfl) rfl rfl (by simp only [List.map_toArray, List.map_cons, List.map_nil]; rfl) ?_
            refine (sask_calls s TA ta L1 TB tb L2 ⟨a, b, c, d⟩ r1 r2 r3 r4 r5 W8 (QA.out.reads).2.2 (QA.out.reads).2.1 (QB.out.reads).2.2 (QB.out.reads).2.1 HLL.out.1 HLL.out.2 HASK.out).mono ?_
            rintro e W9 ⟨v1, v2, v4, rfl, q1, q2, q4, hb⟩
            refine ⟨_, rfl, ?_⟩
            have SP1 := Aside0.mk (show ∀ k, v1.ownBlock = some k → v2.ownBlock ≠ some k ∧ v4.ownBlock ≠ some k from fun k hk => ⟨fun e => (q1.1 k hk).1 e.symm, fun e => (q1.1 k hk).2 e.symm⟩)
            have SP2 := Aside0.mk (show ∀ k, v2.ownBlock = some k → v4.ownBlock ≠ some k from fun k hk e => (q2.1 k hk).2 e.symm)
            have Q1 := Aside0.mk (Row.of q1 HW.out.size)
            have Q2 := Aside0.mk (Row.of q2 HW.out.size)
            have Q4 := Aside0.mk (Row.of q4 HW.out.size)
            clear q1 q2 q4
            have z9 := Aside0.mk hb.size
            have QA := Aside0.mk (Row.below QA.out hb)
            have QB := Aside0.mk (Row.below QB.out hb)
            have PB := Aside0.mk (blk_below PB.out hb)
            have HR0 := Aside0.mk (below_step HR0.out hb)
            have HW := Aside0.mk (below_step HW.out hb)
            clear hb
            refine hK.out _ _ ⟨blk_below P2.out HR0.out, blk_below P3.out HR0.out⟩ (fun hHeld => ?_)
            clear hK K hHeld
            refine norm_ (a' := ?_) ?_ ?_
            rotate_left
            · show Act.put _ (some 29) _ = _
              simp only [Act.put, List.setIfInBounds_toArray, List.set_cons_zero, List.set_cons_succ, i64_w, i32_w]
              rfl
            refine pu_ 5 (some 24) (bt_ 13 575) (by kernel_rfl) ?_
            refine pu_ 6 (some 30) (bt_ 13 639) (by kernel_rfl) ?_
            refine pu_ 7 (some 31) (bt_ 13 767) (by kernel_rfl) ?_
            refine pu_ 8 (some 32) (bt_ 13 1023) (by kernel_rfl) ?_
            have FF : Below W3.heap.size W3 W9 ∧ W9.heap[bn]? = some (.cells #[.int .i64 0, .slice none 0 0, .slice none 0 0] 29 (0, 0)) ∧ W3.heap.size ≤ bn ∧ Row w.heap.size W9 W3.heap.size W9.heap.size v1 r2 ∧ Row w.heap.size W9 W3.heap.size W9.heap.size v2 r3 ∧ Row w.heap.size W9 W3.heap.size W9.heap.size v4 r5 ∧ ((v1 : Value).ownBlock ≠ some bn ∧ (v2 : Value).ownBlock ≠ some bn ∧ (v4 : Value).ownBlock ≠ some bn) ∧ (∀ k, (v1 : Value).ownBlock = some k → (v2 : Value).ownBlock ≠ some k ∧ (v4 : Value).ownBlock ≠ some k) ∧ (∀ k, (v2 : Value).ownBlock = some k → (v4 : Value).ownBlock ≠ some k) := ⟨HR0.out, PB.out, GD.out, Row.wide Q1.out (by have := z4.out; have := z5.out; have := GD.out; have := GH.out; have := GB.out; have := z9.out; omega) (by have := z4.out; have := z5.out; have := GD.out; have := GH.out; have := GB.out; have := z9.out; omega), Row.wide Q2.out (by have := z4.out; have := z5.out; have := GD.out; have := GH.out; have := GB.out; have := z9.out; omega) (by have := z4.out; have := z5.out; have := GD.out; have := GH.out; have := GB.out; have := z9.out; omega), Row.wide Q4.out (by have := z4.out; have := z5.out; have := GD.out; have := GH.out; have := GB.out; have := z9.out; omega) (by have := z4.out; have := z5.out; have := GD.out; have := GH.out; have := GB.out; have := z9.out; omega), ⟨fun e => by have := Q1.out.at_ e; have := z4.out; have := z5.out; have := GD.out; have := GH.out; have := GB.out; have := z9.out; omega, fun e => by have := Q2.out.at_ e; have := z4.out; have := z5.out; have := GD.out; have := GH.out; have := GB.out; have := z9.out; omega, fun e => by have := Q4.out.at_ e; have := z4.out; have := z5.out; have := GD.out; have := GH.out; have := GB.out; have := z9.out; omega⟩, SP1.out, SP2.out⟩
            exact norm_ (by simp only [putAll, Act.put, List.setIfInBounds_toArray, List.set_cons_zero, List.set_cons_succ]) (hCont ((.slice TA L1.length ta), (.slice TB L2.length tb), v1, v2, v4, bn) _ FF)
        · refine event_step (v := .pointer (some ⟨W4.heap.size, 0, none⟩)) (w1 := W4.alloc (.cells #[.int .i64 0, .slice none 0 0, .slice none 0 0] 29 (0, 0))) rfl (by first | (go_simp; done) | (go_simp; rfl)) ?_
          have PB := Aside0.mk (blk_new W4 (.cells #[.int .i64 0, .slice none 0 0, .slice none 0 0] 29 (0, 0)))
          have hb := below_alloc (Below.refl W4.heap.size W4) (.cells #[.int .i64 0, .slice none 0 0, .slice none 0 0] 29 (0, 0))
          have GD := Aside0.mk HR0.out.size
          have GH := Aside0.mk (blk_lt PB.out)
          have GZ := Aside0.mk (Nat.le_refl W4.heap.size)
          have QA := Aside0.mk (Row.below QA.out hb)
          have QB := Aside0.mk (Row.below QB.out hb)
          have HR0 := Aside0.mk (below_step HR0.out hb)
          have HW := Aside0.mk (below_step HW.out hb)
          clear hb
          have GE : Aside0 (W4.heap.size ≤ W4.heap.size) := ⟨Nat.le_refl _⟩
          generalize W4.alloc (.cells #[.int .i64 0, .slice none 0 0, .slice none 0 0] 29 (0, 0)) = W10 at PB GH QA QB HR0 HW ⊢
          obtain ⟨bn, hbn⟩ : ∃ bn, bn = W4.heap.size := ⟨_, rfl⟩
          have GD : Aside0 (W3.heap.size ≤ bn) := ⟨by rw [hbn]; exact GD.out⟩
          rw [← hbn] at PB GH ⊢
          have GB := Aside0.mk hbn
          clear hbn
          refine hK.out _ _ ⟨blk_below P2.out HR0.out, blk_below P3.out HR0.out⟩ (fun hHeld => ?_)
          clear hK K hHeld
          refine norm_ (a' := ?_) ?_ ?_
          rotate_left
          · show Act.put _ (some 6) _ = _
            simp only [Act.put, List.setIfInBounds_toArray, List.set_cons_zero, List.set_cons_succ, i64_w, i32_w]
            rfl
          refine one_ (i := 3) (N := some 28) (bt_ 13 527) rfl rfl (by kernel_rfl) (by decide) (fun K hK => ?_)
          refine goes_ Try.func30 (by kernel_rfl) rfl #[.agg #[.int .i64 a, .int .i64 b, .bool c, .bool d]] (by rfl) rfl rfl (by simp only [List.map_toArray, List.map_cons, List.map_nil]; rfl) ?_
          refine (laws_toHold.calls a b c d a b c d W10 rfl).mono ?_
          rintro e W11 ⟨rfl, hb⟩
          refine ⟨_, rfl, ?_⟩
          have z11 := Aside0.mk hb.size
          have QA := Aside0.mk (Row.below QA.out hb)
          have QB := Aside0.mk (Row.below QB.out hb)
          have PB := Aside0.mk (blk_below PB.out hb)
          have HR0 := Aside0.mk (below_step HR0.out hb)
          have HW := Aside0.mk (below_step HW.out hb)
          clear hb
          refine hK.out _ _ ⟨blk_below P2.out HR0.out, blk_below P3.out HR0.out⟩ (fun hHeld => ?_)
          clear hK K hHeld
          refine norm_ (a' := ?_) ?_ ?_
          rotate_left
          · show Act.put _ (some 28) _ = _
            simp only [Act.put, List.setIfInBounds_toArray, List.set_cons_zero, List.set_cons_succ, i64_w, i32_w]
            rfl
          refine one_ (i := 4) (N := some 29) (bt_ 13 543) rfl rfl (by kernel_rfl) (by decide) (fun K hK => ?_)
          refine goes_ Try.func29 (by kernel_rfl) rfl #[.agg #[.int .i64 s, .slice TA L1.length ta, .slice TB L2.length tb], .agg #[.int .i64 a, .int .i64 b, .bool c, .bool d]] (by rfl) rfl rfl (by simp only [List.map_toArray, List.map_cons, List.map_nil]; rfl) ?_
          refine (sask_calls s TA ta L1 TB tb L2 ⟨a, b, c, d⟩ r1 r2 r3 r4 r5 W11 (QA.out.reads).2.2 (QA.out.reads).2.1 (QB.out.reads).2.2 (QB.out.reads).2.1 HLL.out.1 HLL.out.2 HASK.out).mono ?_
          rintro e W12 ⟨v1, v2, v4, rfl, q1, q2, q4, hb⟩
          refine ⟨_, rfl, ?_⟩
          have SP1 := Aside0.mk (show ∀ k, v1.ownBlock = some k → v2.ownBlock ≠ some k ∧ v4.ownBlock ≠ some k from fun k hk => ⟨fun e => (q1.1 k hk).1 e.symm, fun e => (q1.1 k hk).2 e.symm⟩)
          have SP2 := Aside0.mk (show ∀ k, v2.ownBlock = some k → v4.ownBlock ≠ some k from fun k hk e => (q2.1 k hk).2 e.symm)
          have Q1 := Aside0.mk (Row.of q1 HW.out.size)
          have Q2 := Aside0.mk (Row.of q2 HW.out.size)
          have Q4 := Aside0.mk (Row.of q4 HW.out.size)
          clear q1 q2 q4
          have z12 := Aside0.mk hb.size
          have QA := Aside0.mk (Row.below QA.out hb)
          have QB := Aside0.mk (Row.below QB.out hb)
          have PB := Aside0.mk (blk_below PB.out hb)
          have HR0 := Aside0.mk (below_step HR0.out hb)
          have HW := Aside0.mk (below_step HW.out hb)
          clear hb
          refine hK.out _ _ ⟨blk_below P2.out HR0.out, blk_below P3.out HR0.out⟩ (fun hHeld => ?_)
          clear hK K hHeld
          refine norm_ (a' := ?_) ?_ ?_
          rotate_left
          · show Act.put _ (some 29) _ = _
            simp only [Act.put, List.setIfInBounds_toArray, List.set_cons_zero, List.set_cons_succ, i64_w, i32_w]
            rfl
          refine pu_ 5 (some 24) (bt_ 13 575) (by kernel_rfl) ?_
          refine pu_ 6 (some 30) (bt_ 13 639) (by kernel_rfl) ?_
          refine pu_ 7 (some 31) (bt_ 13 767) (by kernel_rfl) ?_
          refine pu_ 8 (some 32) (bt_ 13 1023) (by kernel_rfl) ?_
          have FF : Below W3.heap.size W3 W12 ∧ W12.heap[bn]? = some (.cells #[.int .i64 0, .slice none 0 0, .slice none 0 0] 29 (0, 0)) ∧ W3.heap.size ≤ bn ∧ Row w.heap.size W12 W3.heap.size W12.heap.size v1 r2 ∧ Row w.heap.size W12 W3.heap.size W12.heap.size v2 r3 ∧ Row w.heap.size W12 W3.heap.size W12.heap.size v4 r5 ∧ ((v1 : Value).ownBlock ≠ some bn ∧ (v2 : Value).ownBlock ≠ some bn ∧ (v4 : Value).ownBlock ≠ some bn) ∧ (∀ k, (v1 : Value).ownBlock = some k → (v2 : Value).ownBlock ≠ some k ∧ (v4 : Value).ownBlock ≠ some k) ∧ (∀ k, (v2 : Value).ownBlock = some k → (v4 : Value).ownBlock ≠ some k) := ⟨HR0.out, PB.out, GD.out, Row.wide Q1.out (by have := z4.out; have := GD.out; have := GH.out; have := GB.out; have := z11.out; have := z12.out; omega) (by have := z4.out; have := GD.out; have := GH.out; have := GB.out; have := z11.out; have := z12.out; omega), Row.wide Q2.out (by have := z4.out; have := GD.out; have := GH.out; have := GB.out; have := z11.out; have := z12.out; omega) (by have := z4.out; have := GD.out; have := GH.out; have := GB.out; have := z11.out; have := z12.out; omega), Row.wide Q4.out (by have := z4.out; have := GD.out; have := GH.out; have := GB.out; have := z11.out; have := z12.out; omega) (by have := z4.out; have := GD.out; have := GH.out; have := GB.out; have := z11.out; have := z12.out; omega), ⟨fun e => by have := Q1.out.at_ e; have := z4.out; have := GD.out; have := GH.out; have := GB.out; have := z11.out; have := z12.out; omega, fun e => by have := Q2.out.at_ e; have := z4.out; have := GD.out; have := GH.out; have := GB.out; have := z11.out; have := z12.out; omega, fun e => by have := Q4.out.at_ e; have := z4.out; have := GD.out; have := GH.out; have := GB.out; have := z11.out; have := z12.out; omega⟩, SP1.out, SP2.out⟩
          exact norm_ (by simp only [putAll, Act.put, List.setIfInBounds_toArray, List.set_cons_zero, List.set_cons_succ]) (hCont ((.slice TA L1.length ta), (.slice TB L2.length tb), v1, v2, v4, bn) _ FF)
      · refine event_step (v := .pointer (some ⟨W3.heap.size, 0, none⟩)) (w1 := W3.alloc (.cells #[.int .i64 0, .slice none 0 0, .slice none 0 0] 29 (0, 0))) rfl (by first | (go_simp; done) | (go_simp; rfl)) ?_
        have PB := Aside0.mk (blk_new W3 (.cells #[.int .i64 0, .slice none 0 0, .slice none 0 0] 29 (0, 0)))
        have hb := below_alloc (Below.refl W3.heap.size W3) (.cells #[.int .i64 0, .slice none 0 0, .slice none 0 0] 29 (0, 0))
        have GD := Aside0.mk HR0.out.size
        have GH := Aside0.mk (blk_lt PB.out)
        have GZ := Aside0.mk (Nat.le_refl W3.heap.size)
        have HR0 := Aside0.mk (below_step HR0.out hb)
        have HW := Aside0.mk (below_step HW.out hb)
        clear hb
        have GE : Aside0 (W3.heap.size ≤ W3.heap.size) := ⟨Nat.le_refl _⟩
        generalize W3.alloc (.cells #[.int .i64 0, .slice none 0 0, .slice none 0 0] 29 (0, 0)) = W13 at PB GH  HR0 HW ⊢
        obtain ⟨bn, hbn⟩ : ∃ bn, bn = W3.heap.size := ⟨_, rfl⟩
        have GD : Aside0 (W3.heap.size ≤ bn) := ⟨by rw [hbn]; exact GD.out⟩
        rw [← hbn] at PB GH ⊢
        have GB := Aside0.mk hbn
        clear hbn
        refine hK.out _ _ ⟨blk_below P2.out HR0.out, blk_below P3.out HR0.out⟩ (fun hHeld => ?_)
        clear hK K hHeld
        refine norm_ (a' := ?_) ?_ ?_
        rotate_left
        · show Act.put _ (some 6) _ = _
          simp only [Act.put, List.setIfInBounds_toArray, List.set_cons_zero, List.set_cons_succ, i64_w, i32_w]
          rfl
        refine one_ (i := 1) (N := some 26) (bt_ 13 519) rfl rfl (by kernel_rfl) (by decide) (fun K hK => ?_)
        refine goes_ Try.func17 (by kernel_rfl) rfl #[.agg #[.int .i64 s, .slice A1 l1.length c1, .slice A2 l2.length c2]] (by rfl) rfl rfl (by simp only [List.map_toArray, List.map_cons, List.map_nil]; rfl) ?_
        refine (laws_toLock.calls k s A1 c1 l1 A2 c2 l2 s L1 L2 W13 (Kd.C_below HR1.out HW.out) HC1.out (Kd.C_below HR2.out HW.out) HC2.out HTO.out).mono ?_
        rintro e W14 ⟨va, vb, rfl, qa, qb, hb⟩
        refine ⟨_, rfl, ?_⟩
        obtain ⟨TA, ta, e0⟩ := Kd.R_slice qa
        subst e0
        obtain ⟨TB, tb, e0⟩ := Kd.R_slice qb
        subst e0
        have QA := Aside0.mk (Row.of qa HW.out.size)
        have QB := Aside0.mk (Row.of qb HW.out.size)
        clear qa qb
        have z14 := Aside0.mk hb.size
        have PB := Aside0.mk (blk_below PB.out hb)
        have HR0 := Aside0.mk (below_step HR0.out hb)
        have HW := Aside0.mk (below_step HW.out hb)
        clear hb
        refine hK.out _ _ ⟨blk_below P2.out HR0.out, blk_below P3.out HR0.out⟩ (fun hHeld => ?_)
        clear hK K hHeld
        refine norm_ (a' := ?_) ?_ ?_
        rotate_left
        · show Act.put _ (some 26) _ = _
          simp only [Act.put, List.setIfInBounds_toArray, List.set_cons_zero, List.set_cons_succ, i64_w, i32_w]
          rfl
        refine one_ (i := 3) (N := some 28) (bt_ 13 527) rfl rfl (by kernel_rfl) (by decide) (fun K hK => ?_)
        refine goes_ Try.func30 (by kernel_rfl) rfl #[.agg #[.int .i64 a, .int .i64 b, .bool c, .bool d]] (by rfl) rfl rfl (by simp only [List.map_toArray, List.map_cons, List.map_nil]; rfl) ?_
        refine (laws_toHold.calls a b c d a b c d W14 rfl).mono ?_
        rintro e W15 ⟨rfl, hb⟩
        refine ⟨_, rfl, ?_⟩
        have z15 := Aside0.mk hb.size
        have QA := Aside0.mk (Row.below QA.out hb)
        have QB := Aside0.mk (Row.below QB.out hb)
        have PB := Aside0.mk (blk_below PB.out hb)
        have HR0 := Aside0.mk (below_step HR0.out hb)
        have HW := Aside0.mk (below_step HW.out hb)
        clear hb
        refine hK.out _ _ ⟨blk_below P2.out HR0.out, blk_below P3.out HR0.out⟩ (fun hHeld => ?_)
        clear hK K hHeld
        refine norm_ (a' := ?_) ?_ ?_
        rotate_left
        · show Act.put _ (some 28) _ = _
          simp only [Act.put, List.setIfInBounds_toArray, List.set_cons_zero, List.set_cons_succ, i64_w, i32_w]
          rfl
        refine one_ (i := 4) (N := some 29) (bt_ 13 543) rfl rfl (by kernel_rfl) (by decide) (fun K hK => ?_)
        refine goes_ Try.func29 (by kernel_rfl) rfl #[.agg #[.int .i64 s, .slice TA L1.length ta, .slice TB L2.length tb], .agg #[.int .i64 a, .int .i64 b, .bool c, .bool d]] (by rfl) rfl rfl (by simp only [List.map_toArray, List.map_cons, List.map_nil]; rfl) ?_
        refine (sask_calls s TA ta L1 TB tb L2 ⟨a, b, c, d⟩ r1 r2 r3 r4 r5 W15 (QA.out.reads).2.2 (QA.out.reads).2.1 (QB.out.reads).2.2 (QB.out.reads).2.1 HLL.out.1 HLL.out.2 HASK.out).mono ?_
        rintro e W16 ⟨v1, v2, v4, rfl, q1, q2, q4, hb⟩
        refine ⟨_, rfl, ?_⟩
        have SP1 := Aside0.mk (show ∀ k, v1.ownBlock = some k → v2.ownBlock ≠ some k ∧ v4.ownBlock ≠ some k from fun k hk => ⟨fun e => (q1.1 k hk).1 e.symm, fun e => (q1.1 k hk).2 e.symm⟩)
        have SP2 := Aside0.mk (show ∀ k, v2.ownBlock = some k → v4.ownBlock ≠ some k from fun k hk e => (q2.1 k hk).2 e.symm)
        have Q1 := Aside0.mk (Row.of q1 HW.out.size)
        have Q2 := Aside0.mk (Row.of q2 HW.out.size)
        have Q4 := Aside0.mk (Row.of q4 HW.out.size)
        clear q1 q2 q4
        have z16 := Aside0.mk hb.size
        have QA := Aside0.mk (Row.below QA.out hb)
        have QB := Aside0.mk (Row.below QB.out hb)
        have PB := Aside0.mk (blk_below PB.out hb)
        have HR0 := Aside0.mk (below_step HR0.out hb)
        have HW := Aside0.mk (below_step HW.out hb)
        clear hb
        refine hK.out _ _ ⟨blk_below P2.out HR0.out, blk_below P3.out HR0.out⟩ (fun hHeld => ?_)
        clear hK K hHeld
        refine norm_ (a' := ?_) ?_ ?_
        rotate_left
        · show Act.put _ (some 29) _ = _
          simp only [Act.put, List.setIfInBounds_toArray, List.set_cons_zero, List.set_cons_succ, i64_w, i32_w]
          rfl
        refine pu_ 5 (some 24) (bt_ 13 575) (by kernel_rfl) ?_
        refine pu_ 6 (some 30) (bt_ 13 639) (by kernel_rfl) ?_
        refine pu_ 7 (some 31) (bt_ 13 767) (by kernel_rfl) ?_
        refine pu_ 8 (some 32) (bt_ 13 1023) (by kernel_rfl) ?_
        have FF : Below W3.heap.size W3 W16 ∧ W16.heap[bn]? = some (.cells #[.int .i64 0, .slice none 0 0, .slice none 0 0] 29 (0, 0)) ∧ W3.heap.size ≤ bn ∧ Row w.heap.size W16 W3.heap.size W16.heap.size v1 r2 ∧ Row w.heap.size W16 W3.heap.size W16.heap.size v2 r3 ∧ Row w.heap.size W16 W3.heap.size W16.heap.size v4 r5 ∧ ((v1 : Value).ownBlock ≠ some bn ∧ (v2 : Value).ownBlock ≠ some bn ∧ (v4 : Value).ownBlock ≠ some bn) ∧ (∀ k, (v1 : Value).ownBlock = some k → (v2 : Value).ownBlock ≠ some k ∧ (v4 : Value).ownBlock ≠ some k) ∧ (∀ k, (v2 : Value).ownBlock = some k → (v4 : Value).ownBlock ≠ some k) := ⟨HR0.out, PB.out, GD.out, Row.wide Q1.out (by have := GD.out; have := GH.out; have := GB.out; have := z14.out; have := z15.out; have := z16.out; omega) (by have := GD.out; have := GH.out; have := GB.out; have := z14.out; have := z15.out; have := z16.out; omega), Row.wide Q2.out (by have := GD.out; have := GH.out; have := GB.out; have := z14.out; have := z15.out; have := z16.out; omega) (by have := GD.out; have := GH.out; have := GB.out; have := z14.out; have := z15.out; have := z16.out; omega), Row.wide Q4.out (by have := GD.out; have := GH.out; have := GB.out; have := z14.out; have := z15.out; have := z16.out; omega) (by have := GD.out; have := GH.out; have := GB.out; have := z14.out; have := z15.out; have := z16.out; omega), ⟨fun e => by have := Q1.out.at_ e; have := GD.out; have := GH.out; have := GB.out; have := z14.out; have := z15.out; have := z16.out; omega, fun e => by have := Q2.out.at_ e; have := GD.out; have := GH.out; have := GB.out; have := z14.out; have := z15.out; have := z16.out; omega, fun e => by have := Q4.out.at_ e; have := GD.out; have := GH.out; have := GB.out; have := z14.out; have := z15.out; have := z16.out; omega⟩, SP1.out, SP2.out⟩
        exact norm_ (by simp only [putAll, Act.put, List.setIfInBounds_toArray, List.set_cons_zero, List.set_cons_succ]) (hCont ((.slice TA L1.length ta), (.slice TB L2.length tb), v1, v2, v4, bn) _ FF)
    rintro ⟨va, vb, v1, v2, v4, b6⟩ W17 ⟨hb, pb, gb, f1, f2, f4, nb, sp1, sp2⟩
    have ZLa : Aside0 (W3.heap.size ≤ b6) := ⟨gb⟩
    have ZHa : Aside0 (b6 < W17.heap.size) := ⟨blk_lt pb⟩
    have Z1806 := Aside0.mk (hb).size
    have P2 := Aside0.mk (blk_below P2.out hb)
    have P3 := Aside0.mk (blk_below P3.out hb)
    have HB := Aside0.mk (below_step HB.out hb)
    clear hb
    have P6 : Aside0 (W17.heap[b6]? = some (.cells #[.int .i64 0, .slice none 0 0, .slice none 0 0] 29 (0, 0))) := ⟨pb⟩
    have QW1 : Aside0 (Row w.heap.size W17 W3.heap.size W17.heap.size v1 r2) := ⟨f1⟩
    have QW2 : Aside0 (Row w.heap.size W17 W3.heap.size W17.heap.size v2 r3) := ⟨f2⟩
    have QW5 : Aside0 (Row w.heap.size W17 W3.heap.size W17.heap.size v4 r5) := ⟨f4⟩
    have NBa : Aside0 (((v1 : Value).ownBlock ≠ some b6 ∧ (v2 : Value).ownBlock ≠ some b6 ∧ (v4 : Value).ownBlock ≠ some b6)) := ⟨nb⟩
    have SAa : Aside0 ((∀ k, (v1 : Value).ownBlock = some k → (v2 : Value).ownBlock ≠ some k ∧ (v4 : Value).ownBlock ≠ some k)) := ⟨sp1⟩
    have SBa : Aside0 ((∀ k, (v2 : Value).ownBlock = some k → (v4 : Value).ownBlock ≠ some k)) := ⟨sp2⟩
    clear pb gb f1 f2 f4 nb sp1 sp2
    obtain ⟨V1, v1_, e0⟩ := Row.slice QW1.out
    subst e0
    obtain ⟨V2, v2_, e0⟩ := Row.slice QW2.out
    subst e0
    obtain ⟨V5, v5_, e0⟩ := Row.slice QW5.out
    subst e0
    refine norm_ (a' := ?_) ?_ ?_
    rotate_left
    · simp only [putAll, Act.put, List.setIfInBounds_toArray, List.set_cons_zero, List.set_cons_succ]
      rfl
    refine one_ (i := 10) (N := none) (bt_ 13 2047) rfl rfl (by kernel_rfl) (by decide) (fun K hK => ?_)
    refine st_ rfl 29 (.tmp 6) (.tmp 30) rfl b6 #[.int .i64 r1, .slice V1 r2.length v1_, .slice V2 r3.length v2_] rfl rfl 29 #[.int .i64 0, .slice none 0 0, .slice none 0 0] P6.out (by kernel_rfl) rfl (by simp [Value.oneCell']) ?_
    have P2 := Aside0.mk ((setRow_other W17 b6 w.heap.size #[.int .i64 r1, .slice V1 r2.length v1_, .slice V2 r3.length v2_] (by have := Z1.out; have := Z2.out; have := Z202.out; have := Za.out; have := ZLa.out; have := ZHa.out; have := Z1806.out; omega)).trans P2.out)
    have P3 := Aside0.mk ((setRow_other W17 b6 b3 #[.int .i64 r1, .slice V1 r2.length v1_, .slice V2 r3.length v2_] (by have := Z1.out; have := Z2.out; have := Z202.out; have := Za.out; have := ZLa.out; have := ZHa.out; have := Z1806.out; omega)).trans P3.out)
    have QW1 := Aside0.mk (Row.sep QW1.out #[.int .i64 r1, .slice V1 r2.length v1_, .slice V2 r3.length v2_] (b := b6) NBa.out.1)
    have QW2 := Aside0.mk (Row.sep QW2.out #[.int .i64 r1, .slice V1 r2.length v1_, .slice V2 r3.length v2_] (b := b6) NBa.out.2.1)
    have QW5 := Aside0.mk (Row.sep QW5.out #[.int .i64 r1, .slice V1 r2.length v1_, .slice V2 r3.length v2_] (b := b6) NBa.out.2.2)
    have P6 := Aside0.mk (setRow_heap W17 b6 _ #[.int .i64 r1, .slice V1 r2.length v1_, .slice V2 r3.length v2_] 29 (0, 0) P6.out)
    have HB := Aside0.mk (below_setRow HB.out (show w.heap.size ≤ b6 by have := Z1.out; have := Z2.out; have := Z202.out; have := Za.out; have := ZLa.out; have := ZHa.out; have := Z1806.out; omega) #[.int .i64 r1, .slice V1 r2.length v1_, .slice V2 r3.length v2_])
    have Z1018 := Aside0.mk (show W17.heap.size ≤ (W17.setRow b6 #[.int .i64 r1, .slice V1 r2.length v1_, .slice V2 r3.length v2_]).heap.size by simp [World.setRow])
    generalize W17.setRow b6 #[.int .i64 r1, .slice V1 r2.length v1_, .slice V2 r3.length v2_] = W18 at P6 P2 P3 QW1 QW2 QW5 HB Z1018 ⊢
    refine hK.out _ _ ⟨P2.out, P3.out⟩ (fun hHeld => ?_)
    clear hK K hHeld
    refine norm_ (a' := ?_) ?_ ?_
    rotate_left
    · show Act.put _ none _ = _
      simp only [Act.put, List.setIfInBounds_toArray, List.set_cons_zero, List.set_cons_succ, i64_w, i32_w]
      rfl
    refine pu_ 11 (some 7) (bt_ 13 4095) (by kernel_rfl) ?_
    refine pu_ 12 (some 8) (bt_ 13 8191) (by kernel_rfl) ?_
    refine done_ (by kernel_rfl) ?_
    go_wp2_with (((with_reducible refine gate_dst (N := 33) rfl ?_); refine wpList_load_row rfl 24 (.tmp 2) rfl w.heap.size rfl 24 #[.int .i64 s, .slice A1 l1.length c1, .slice A2 l2.length c2] (0, 0) _ P2.out hu24 rfl (by kernel_rfl) ?_))
    refine (laws_toLock.calls k s A1 c1 l1 A2 c2 l2 s L1 L2 W18 (Kd.C_below HR1.out HB.out) HC1.out (Kd.C_below HR2.out HB.out) HC2.out HTO.out).mono ?_
    rintro e W19 ⟨va, vb, rfl, qa, qb, hb⟩
    obtain ⟨XA, xa, e0⟩ := Kd.R_slice qa
    subst e0
    obtain ⟨XB, xb, e0⟩ := Kd.R_slice qb
    subst e0
    have q1 := Row.of qa HB.out.size
    have q2 := Row.of qb HB.out.size
    have SX := Aside0.mk (show ∀ k, (Value.slice XA L1.length xa).ownBlock = some k → (Value.slice XB L2.length xb).ownBlock ≠ some k from fun k hk e => (qa.1 k hk) e.symm)
    clear qa qb
    have Z1908 := Aside0.mk (hb).size
    have P2 := Aside0.mk (blk_below P2.out hb)
    have P3 := Aside0.mk (blk_below P3.out hb)
    have P6 := Aside0.mk (blk_below P6.out hb)
    have QW1 := Aside0.mk (Row.below QW1.out hb)
    have QW2 := Aside0.mk (Row.below QW2.out hb)
    have QW5 := Aside0.mk (Row.below QW5.out hb)
    have HB := Aside0.mk (below_step HB.out hb)
    clear hb
    have QX1 := Aside0.mk q1
    have QX2 := Aside0.mk q2
    clear q1 q2
    have PX_ := Aside0.mk (blk_new W19 (.cells #[.int .i64 s, .slice XA L1.length xa, .slice XB L2.length xb] 29 (0, 0)))
    have hb := below_alloc (Below.refl W19.heap.size W19) (.cells #[.int .i64 s, .slice XA L1.length xa, .slice XB L2.length xb] 29 (0, 0))
    go_wp2_with (fail)
    have Z2109 := Aside0.mk (hb).size
    have P2 := Aside0.mk (blk_below P2.out hb)
    have P3 := Aside0.mk (blk_below P3.out hb)
    have P6 := Aside0.mk (blk_below P6.out hb)
    have QW1 := Aside0.mk (Row.below QW1.out hb)
    have QW2 := Aside0.mk (Row.below QW2.out hb)
    have QW5 := Aside0.mk (Row.below QW5.out hb)
    have QX1 := Aside0.mk (Row.below QX1.out hb)
    have QX2 := Aside0.mk (Row.below QX2.out hb)
    have HB := Aside0.mk (below_step HB.out hb)
    clear hb
    have P9 := Aside0.mk PX_.out
    have ZHn := Aside0.mk (blk_lt PX_.out)
    clear PX_
    generalize W19.alloc (.cells #[.int .i64 s, .slice XA L1.length xa, .slice XB L2.length xb] 29 (0, 0)) = W20 at P9 ZHn Z2109 P2 P3 P6 HB QW1 QW2 QW5 QX1 QX2 ⊢
    obtain ⟨b9, hb9⟩ : ∃ b9, b9 = W19.heap.size := ⟨_, rfl⟩
    rw [← hb9] at P9 ZHn ⊢
    have ZLn := Aside0.mk hb9
    clear hb9
    have P2 := Aside0.mk (blk_drew P2.out)
    have P3 := Aside0.mk (blk_drew P3.out)
    have P6 := Aside0.mk (blk_drew P6.out)
    have P9 := Aside0.mk (blk_drew P9.out)
    have QW1 := Aside0.mk (show Row _ _ _ _ _ _ from Kd.R_drew QW1.out)
    have QW2 := Aside0.mk (show Row _ _ _ _ _ _ from Kd.R_drew QW2.out)
    have QW5 := Aside0.mk (show Row _ _ _ _ _ _ from Kd.R_drew QW5.out)
    have QX1 := Aside0.mk (show Row _ _ _ _ _ _ from Kd.R_drew QX1.out)
    have QX2 := Aside0.mk (show Row _ _ _ _ _ _ from Kd.R_drew QX2.out)
    have HB := Aside0.mk (below_drew1 HB.out)
    have HSS := (show (W20.drew).heap[b9]? = some (.cells #[.int .i64 s, .slice XA L1.length xa, .slice XB L2.length xb] 29 (0, 0)) ∧ (W20.drew).heap[b3]? = some (.cells #[.int .i64 a, .int .i64 b, .bool c, .bool d] 42 (0, 0)) from ⟨P9.out, P3.out⟩)
    refine start_ (n := 12) (S := fun w' => w'.heap[b9]? = some (.cells #[.int .i64 s, .slice XA L1.length xa, .slice XB L2.length xb] 29 (0, 0)) ∧ w'.heap[b3]? = some (.cells #[.int .i64 a, .int .i64 b, .bool c, .bool d] 42 (0, 0))) (ds := []) (bt_ 12 0) (by kernel_rfl) rfl rfl HSS (fun hHeld => ?_)
    have Zb : Aside0 (W20.heap.size ≤ (W20.drew).heap.size) := ⟨Nat.le_refl _⟩
    clear HSS
    generalize W20.drew = W22 at P2 P3 P6 P9 QW1 QW2 QW5 QX1 QX2 HB Zb hHeld ⊢
    refine ld_ 0 (some 36) (bt_ 12 1) b9 29 (.tmp 9) #[.int .i64 s, .slice XA L1.length xa, .slice XB L2.length xb] _ (by kernel_rfl) hHeld (fun _ h_ => h_.1) hu29 rfl (by kernel_rfl) ?_
    refine ld_ 1 (some 37) (bt_ 12 3) b3 42 (.tmp 3) #[.int .i64 a, .int .i64 b, .bool c, .bool d] _ (by kernel_rfl) hHeld (fun _ h_ => h_.2) hu42 rfl (by kernel_rfl) ?_
    clear hHeld
    refine join_ (σ := Value × Value × Value × Nat) 3 (bt_ 12 511) (fun s_ => [(38, .agg #[.int .i64 a, .int .i64 b, .bool c, .bool d]), (39, .tuple #[.agg #[.int .i64 r1, s_.1, s_.2.1], .bool r4, s_.2.2.1]), (10, .pointer (some ⟨s_.2.2.2, 0, none⟩)), (35, .tuple #[.agg #[.int .i64 r1, s_.1, s_.2.1], .bool r4, s_.2.2.1]), (40, .agg #[.int .i64 r1, s_.1, s_.2.1]), (41, .bool r4), (42, s_.2.2.1)]) (fun s_ wr => Below W22.heap.size W22 wr ∧ wr.heap[s_.2.2.2]? = some (.cells #[.int .i64 0, .slice none 0 0, .slice none 0 0] 29 (0, 0)) ∧ W22.heap.size ≤ s_.2.2.2 ∧ Row w.heap.size wr W22.heap.size wr.heap.size s_.1 r2 ∧ Row w.heap.size wr W22.heap.size wr.heap.size s_.2.1 r3 ∧ Row w.heap.size wr W22.heap.size wr.heap.size s_.2.2.1 r5 ∧ ((s_.1 : Value).ownBlock ≠ some s_.2.2.2 ∧ (s_.2.1 : Value).ownBlock ≠ some s_.2.2.2 ∧ (s_.2.2.1 : Value).ownBlock ≠ some s_.2.2.2) ∧ (∀ k, (s_.1 : Value).ownBlock = some k → (s_.2.1 : Value).ownBlock ≠ some k ∧ (s_.2.2.1 : Value).ownBlock ≠ some k) ∧ (∀ k, (s_.2.1 : Value).ownBlock = some k → (s_.2.2.1 : Value).ownBlock ≠ some k)) ?_ ?_
    rotate_left
    · intro hCont
      have HR0 := Aside0.mk (Below.refl W22.heap.size W22)
      have HW := HB
      refine two_ (i := 2) (j := 8) (Ni := some 38) (Nj := some 10) (bt_ 12 7) (bt_ 12 259) rfl rfl rfl rfl (by kernel_rfl) (by decide) (by decide) (fun K hK => ?_) (fun K hK => ?_)
      · refine goes_ Try.func30 (by kernel_rfl) rfl #[.agg #[.int .i64 a, .int .i64 b, .bool c, .bool d]] (by rfl) rfl rfl (by simp only [List.map_toArray, List.map_cons, List.map_nil]; rfl) ?_
        refine (laws_toHold.calls a b c d a b c d W22 rfl).mono ?_
        rintro e W23 ⟨rfl, hb⟩
        refine ⟨_, rfl, ?_⟩
        have z23 := Aside0.mk hb.size
        have HR0 := Aside0.mk (below_step HR0.out hb)
        have HW := Aside0.mk (below_step HW.out hb)
        clear hb
        refine hK.out _ _ ⟨blk_below P9.out HR0.out, blk_below P3.out HR0.out⟩ (fun hHeld => ?_)
        clear hK K hHeld
        refine norm_ (a' := ?_) ?_ ?_
        rotate_left
        · show Act.put _ (some 38) _ = _
          simp only [Act.put, List.setIfInBounds_toArray, List.set_cons_zero, List.set_cons_succ, i64_w, i32_w]
          rfl
        refine two_ (i := 3) (j := 8) (Ni := some 39) (Nj := some 10) (bt_ 12 15) (bt_ 12 263) rfl rfl rfl rfl (by kernel_rfl) (by decide) (by decide) (fun K hK => ?_) (fun K hK => ?_)
        · refine goes_ Try.func31 (by kernel_rfl) rfl #[.agg #[.int .i64 s, .slice XA L1.length xa, .slice XB L2.length xb], .agg #[.int .i64 a, .int .i64 b, .bool c, .bool d]] (by rfl) rfl rfl (by simp only [List.map_toArray, List.map_cons, List.map_nil]; rfl) ?_
          have QX1' := Aside0.mk (Row.below QX1.out HR0.out)
          have QX2' := Aside0.mk (Row.below QX2.out HR0.out)
          refine (ask_calls s XA xa L1 XB xb L2 ⟨a, b, c, d⟩ r1 r2 r3 r4 r5 W23 (QX1'.out.reads).2.2 (QX1'.out.reads).2.1 (QX2'.out.reads).2.2 (QX2'.out.reads).2.1 HLL.out.1 HLL.out.2 HASK.out).mono ?_
          rintro e W24 ⟨v1, v2, v4, rfl, q1, q2, q4, hb⟩
          refine ⟨_, rfl, ?_⟩
          have SP1 := Aside0.mk (show ∀ k, v1.ownBlock = some k → v2.ownBlock ≠ some k ∧ v4.ownBlock ≠ some k from fun k hk => ⟨fun e => (q1.1 k hk).1 e.symm, fun e => (q1.1 k hk).2 e.symm⟩)
          have SP2 := Aside0.mk (show ∀ k, v2.ownBlock = some k → v4.ownBlock ≠ some k from fun k hk e => (q2.1 k hk).2 e.symm)
          have Q1 := Aside0.mk (Row.of q1 HW.out.size)
          have Q2 := Aside0.mk (Row.of q2 HW.out.size)
          have Q4 := Aside0.mk (Row.of q4 HW.out.size)
          clear q1 q2 q4
          have z24 := Aside0.mk hb.size
          have HR0 := Aside0.mk (below_step HR0.out hb)
          have HW := Aside0.mk (below_step HW.out hb)
          clear hb
          refine hK.out _ _ ⟨blk_below P9.out HR0.out, blk_below P3.out HR0.out⟩ (fun hHeld => ?_)
          clear hK K hHeld
          refine norm_ (a' := ?_) ?_ ?_
          rotate_left
          · show Act.put _ (some 39) _ = _
            simp only [Act.put, List.setIfInBounds_toArray, List.set_cons_zero, List.set_cons_succ, i64_w, i32_w]
            rfl
          refine pu_ 4 (some 35) (bt_ 12 31) (by kernel_rfl) ?_
          refine pu_ 5 (some 40) (bt_ 12 63) (by kernel_rfl) ?_
          refine pu_ 6 (some 41) (bt_ 12 127) (by kernel_rfl) ?_
          refine pu_ 7 (some 42) (bt_ 12 255) (by kernel_rfl) ?_
          refine one_ (i := 8) (N := some 10) (bt_ 12 511) rfl rfl (by kernel_rfl) (by decide) (fun K hK => ?_)
          refine event_step (v := .pointer (some ⟨W24.heap.size, 0, none⟩)) (w1 := W24.alloc (.cells #[.int .i64 0, .slice none 0 0, .slice none 0 0] 29 (0, 0))) rfl (by first | (go_simp; done) | (go_simp; rfl)) ?_
          have PB := Aside0.mk (blk_new W24 (.cells #[.int .i64 0, .slice none 0 0, .slice none 0 0] 29 (0, 0)))
          have hb := below_alloc (Below.refl W24.heap.size W24) (.cells #[.int .i64 0, .slice none 0 0, .slice none 0 0] 29 (0, 0))
          have GD := Aside0.mk HR0.out.size
          have GH := Aside0.mk (blk_lt PB.out)
          have GZ := Aside0.mk (Nat.le_refl W24.heap.size)
          have Q1 := Aside0.mk (Row.below Q1.out hb)
          have Q2 := Aside0.mk (Row.below Q2.out hb)
          have Q4 := Aside0.mk (Row.below Q4.out hb)
          have HR0 := Aside0.mk (below_step HR0.out hb)
          have HW := Aside0.mk (below_step HW.out hb)
          clear hb
          have GE : Aside0 (W24.heap.size ≤ W24.heap.size) := ⟨Nat.le_refl _⟩
          generalize W24.alloc (.cells #[.int .i64 0, .slice none 0 0, .slice none 0 0] 29 (0, 0)) = W25 at PB GH Q1 Q2 Q4 HR0 HW ⊢
          obtain ⟨bn, hbn⟩ : ∃ bn, bn = W24.heap.size := ⟨_, rfl⟩
          have GD : Aside0 (W22.heap.size ≤ bn) := ⟨by rw [hbn]; exact GD.out⟩
          rw [← hbn] at PB GH ⊢
          have GB := Aside0.mk hbn
          clear hbn
          refine hK.out _ _ ⟨blk_below P9.out HR0.out, blk_below P3.out HR0.out⟩ (fun hHeld => ?_)
          clear hK K hHeld
          refine norm_ (a' := ?_) ?_ ?_
          rotate_left
          · show Act.put _ (some 10) _ = _
            simp only [Act.put, List.setIfInBounds_toArray, List.set_cons_zero, List.set_cons_succ, i64_w, i32_w]
            rfl
          have FF : Below W22.heap.size W22 W25 ∧ W25.heap[bn]? = some (.cells #[.int .i64 0, .slice none 0 0, .slice none 0 0] 29 (0, 0)) ∧ W22.heap.size ≤ bn ∧ Row w.heap.size W25 W22.heap.size W25.heap.size v1 r2 ∧ Row w.heap.size W25 W22.heap.size W25.heap.size v2 r3 ∧ Row w.heap.size W25 W22.heap.size W25.heap.size v4 r5 ∧ ((v1 : Value).ownBlock ≠ some bn ∧ (v2 : Value).ownBlock ≠ some bn ∧ (v4 : Value).ownBlock ≠ some bn) ∧ (∀ k, (v1 : Value).ownBlock = some k → (v2 : Value).ownBlock ≠ some k ∧ (v4 : Value).ownBlock ≠ some k) ∧ (∀ k, (v2 : Value).ownBlock = some k → (v4 : Value).ownBlock ≠ some k) := ⟨HR0.out, PB.out, GD.out, Row.wide Q1.out (by have := z23.out; have := z24.out; have := GD.out; have := GH.out; have := GB.out; omega) (by have := z23.out; have := z24.out; have := GD.out; have := GH.out; have := GB.out; omega), Row.wide Q2.out (by have := z23.out; have := z24.out; have := GD.out; have := GH.out; have := GB.out; omega) (by have := z23.out; have := z24.out; have := GD.out; have := GH.out; have := GB.out; omega), Row.wide Q4.out (by have := z23.out; have := z24.out; have := GD.out; have := GH.out; have := GB.out; omega) (by have := z23.out; have := z24.out; have := GD.out; have := GH.out; have := GB.out; omega), ⟨fun e => by have := Q1.out.at_ e; have := z23.out; have := z24.out; have := GD.out; have := GH.out; have := GB.out; omega, fun e => by have := Q2.out.at_ e; have := z23.out; have := z24.out; have := GD.out; have := GH.out; have := GB.out; omega, fun e => by have := Q4.out.at_ e; have := z23.out; have := z24.out; have := GD.out; have := GH.out; have := GB.out; omega⟩, SP1.out, SP2.out⟩
          exact norm_ (by simp only [putAll, Act.put, List.setIfInBounds_toArray, List.set_cons_zero, List.set_cons_succ]) (hCont (v1, v2, v4, bn) _ FF)
        · refine event_step (v := .pointer (some ⟨W23.heap.size, 0, none⟩)) (w1 := W23.alloc (.cells #[.int .i64 0, .slice none 0 0, .slice none 0 0] 29 (0, 0))) rfl (by first | (go_simp; done) | (go_simp; rfl)) ?_
          have PB := Aside0.mk (blk_new W23 (.cells #[.int .i64 0, .slice none 0 0, .slice none 0 0] 29 (0, 0)))
          have hb := below_alloc (Below.refl W23.heap.size W23) (.cells #[.int .i64 0, .slice none 0 0, .slice none 0 0] 29 (0, 0))
          have GD := Aside0.mk HR0.out.size
          have GH := Aside0.mk (blk_lt PB.out)
          have GZ := Aside0.mk (Nat.le_refl W23.heap.size)
          have HR0 := Aside0.mk (below_step HR0.out hb)
          have HW := Aside0.mk (below_step HW.out hb)
          clear hb
          have GE : Aside0 (W23.heap.size ≤ W23.heap.size) := ⟨Nat.le_refl _⟩
          generalize W23.alloc (.cells #[.int .i64 0, .slice none 0 0, .slice none 0 0] 29 (0, 0)) = W26 at PB GH  HR0 HW ⊢
          obtain ⟨bn, hbn⟩ : ∃ bn, bn = W23.heap.size := ⟨_, rfl⟩
          have GD : Aside0 (W22.heap.size ≤ bn) := ⟨by rw [hbn]; exact GD.out⟩
          rw [← hbn] at PB GH ⊢
          have GB := Aside0.mk hbn
          clear hbn
          refine hK.out _ _ ⟨blk_below P9.out HR0.out, blk_below P3.out HR0.out⟩ (fun hHeld => ?_)
          clear hK K hHeld
          refine norm_ (a' := ?_) ?_ ?_
          rotate_left
          · show Act.put _ (some 10) _ = _
            simp only [Act.put, List.setIfInBounds_toArray, List.set_cons_zero, List.set_cons_succ, i64_w, i32_w]
            rfl
          refine one_ (i := 3) (N := some 39) (bt_ 12 271) rfl rfl (by kernel_rfl) (by decide) (fun K hK => ?_)
          refine goes_ Try.func31 (by kernel_rfl) rfl #[.agg #[.int .i64 s, .slice XA L1.length xa, .slice XB L2.length xb], .agg #[.int .i64 a, .int .i64 b, .bool c, .bool d]] (by rfl) rfl rfl (by simp only [List.map_toArray, List.map_cons, List.map_nil]; rfl) ?_
          have QX1' := Aside0.mk (Row.below QX1.out HR0.out)
          have QX2' := Aside0.mk (Row.below QX2.out HR0.out)
          refine (ask_calls s XA xa L1 XB xb L2 ⟨a, b, c, d⟩ r1 r2 r3 r4 r5 W26 (QX1'.out.reads).2.2 (QX1'.out.reads).2.1 (QX2'.out.reads).2.2 (QX2'.out.reads).2.1 HLL.out.1 HLL.out.2 HASK.out).mono ?_
          rintro e W27 ⟨v1, v2, v4, rfl, q1, q2, q4, hb⟩
          refine ⟨_, rfl, ?_⟩
          have SP1 := Aside0.mk (show ∀ k, v1.ownBlock = some k → v2.ownBlock ≠ some k ∧ v4.ownBlock ≠ some k from fun k hk => ⟨fun e => (q1.1 k hk).1 e.symm, fun e => (q1.1 k hk).2 e.symm⟩)
          have SP2 := Aside0.mk (show ∀ k, v2.ownBlock = some k → v4.ownBlock ≠ some k from fun k hk e => (q2.1 k hk).2 e.symm)
          have Q1 := Aside0.mk (Row.of q1 HW.out.size)
          have Q2 := Aside0.mk (Row.of q2 HW.out.size)
          have Q4 := Aside0.mk (Row.of q4 HW.out.size)
          clear q1 q2 q4
          have z27 := Aside0.mk hb.size
          have PB := Aside0.mk (blk_below PB.out hb)
          have HR0 := Aside0.mk (below_step HR0.out hb)
          have HW := Aside0.mk (below_step HW.out hb)
          clear hb
          refine hK.out _ _ ⟨blk_below P9.out HR0.out, blk_below P3.out HR0.out⟩ (fun hHeld => ?_)
          clear hK K hHeld
          refine norm_ (a' := ?_) ?_ ?_
          rotate_left
          · show Act.put _ (some 39) _ = _
            simp only [Act.put, List.setIfInBounds_toArray, List.set_cons_zero, List.set_cons_succ, i64_w, i32_w]
            rfl
          refine pu_ 4 (some 35) (bt_ 12 287) (by kernel_rfl) ?_
          refine pu_ 5 (some 40) (bt_ 12 319) (by kernel_rfl) ?_
          refine pu_ 6 (some 41) (bt_ 12 383) (by kernel_rfl) ?_
          refine pu_ 7 (some 42) (bt_ 12 511) (by kernel_rfl) ?_
          have FF : Below W22.heap.size W22 W27 ∧ W27.heap[bn]? = some (.cells #[.int .i64 0, .slice none 0 0, .slice none 0 0] 29 (0, 0)) ∧ W22.heap.size ≤ bn ∧ Row w.heap.size W27 W22.heap.size W27.heap.size v1 r2 ∧ Row w.heap.size W27 W22.heap.size W27.heap.size v2 r3 ∧ Row w.heap.size W27 W22.heap.size W27.heap.size v4 r5 ∧ ((v1 : Value).ownBlock ≠ some bn ∧ (v2 : Value).ownBlock ≠ some bn ∧ (v4 : Value).ownBlock ≠ some bn) ∧ (∀ k, (v1 : Value).ownBlock = some k → (v2 : Value).ownBlock ≠ some k ∧ (v4 : Value).ownBlock ≠ some k) ∧ (∀ k, (v2 : Value).ownBlock = some k → (v4 : Value).ownBlock ≠ some k) := ⟨HR0.out, PB.out, GD.out, Row.wide Q1.out (by have := z23.out; have := GD.out; have := GH.out; have := GB.out; have := z27.out; omega) (by have := z23.out; have := GD.out; have := GH.out; have := GB.out; have := z27.out; omega), Row.wide Q2.out (by have := z23.out; have := GD.out; have := GH.out; have := GB.out; have := z27.out; omega) (by have := z23.out; have := GD.out; have := GH.out; have := GB.out; have := z27.out; omega), Row.wide Q4.out (by have := z23.out; have := GD.out; have := GH.out; have := GB.out; have := z27.out; omega) (by have := z23.out; have := GD.out; have := GH.out; have := GB.out; have := z27.out; omega), ⟨fun e => by have := Q1.out.at_ e; have := z23.out; have := GD.out; have := GH.out; have := GB.out; have := z27.out; omega, fun e => by have := Q2.out.at_ e; have := z23.out; have := GD.out; have := GH.out; have := GB.out; have := z27.out; omega, fun e => by have := Q4.out.at_ e; have := z23.out; have := GD.out; have := GH.out; have := GB.out; have := z27.out; omega⟩, SP1.out, SP2.out⟩
          exact norm_ (by simp only [putAll, Act.put, List.setIfInBounds_toArray, List.set_cons_zero, List.set_cons_succ]) (hCont (v1, v2, v4, bn) _ FF)
      · refine event_step (v := .pointer (some ⟨W22.heap.size, 0, none⟩)) (w1 := W22.alloc (.cells #[.int .i64 0, .slice none 0 0, .slice none 0 0] 29 (0, 0))) rfl (by first | (go_simp; done) | (go_simp; rfl)) ?_
        have PB := Aside0.mk (blk_new W22 (.cells #[.int .i64 0, .slice none 0 0, .slice none 0 0] 29 (0, 0)))
        have hb := below_alloc (Below.refl W22.heap.size W22) (.cells #[.int .i64 0, .slice none 0 0, .slice none 0 0] 29 (0, 0))
        have GD := Aside0.mk HR0.out.size
        have GH := Aside0.mk (blk_lt PB.out)
        have GZ := Aside0.mk (Nat.le_refl W22.heap.size)
        have HR0 := Aside0.mk (below_step HR0.out hb)
        have HW := Aside0.mk (below_step HW.out hb)
        clear hb
        have GE : Aside0 (W22.heap.size ≤ W22.heap.size) := ⟨Nat.le_refl _⟩
        generalize W22.alloc (.cells #[.int .i64 0, .slice none 0 0, .slice none 0 0] 29 (0, 0)) = W28 at PB GH  HR0 HW ⊢
        obtain ⟨bn, hbn⟩ : ∃ bn, bn = W22.heap.size := ⟨_, rfl⟩
        have GD : Aside0 (W22.heap.size ≤ bn) := ⟨by rw [hbn]; exact GD.out⟩
        rw [← hbn] at PB GH ⊢
        have GB := Aside0.mk hbn
        clear hbn
        refine hK.out _ _ ⟨blk_below P9.out HR0.out, blk_below P3.out HR0.out⟩ (fun hHeld => ?_)
        clear hK K hHeld
        refine norm_ (a' := ?_) ?_ ?_
        rotate_left
        · show Act.put _ (some 10) _ = _
          simp only [Act.put, List.setIfInBounds_toArray, List.set_cons_zero, List.set_cons_succ, i64_w, i32_w]
          rfl
        refine one_ (i := 2) (N := some 38) (bt_ 12 263) rfl rfl (by kernel_rfl) (by decide) (fun K hK => ?_)
        refine goes_ Try.func30 (by kernel_rfl) rfl #[.agg #[.int .i64 a, .int .i64 b, .bool c, .bool d]] (by rfl) rfl rfl (by simp only [List.map_toArray, List.map_cons, List.map_nil]; rfl) ?_
        refine (laws_toHold.calls a b c d a b c d W28 rfl).mono ?_
        rintro e W29 ⟨rfl, hb⟩
        refine ⟨_, rfl, ?_⟩
        have z29 := Aside0.mk hb.size
        have PB := Aside0.mk (blk_below PB.out hb)
        have HR0 := Aside0.mk (below_step HR0.out hb)
        have HW := Aside0.mk (below_step HW.out hb)
        clear hb
        refine hK.out _ _ ⟨blk_below P9.out HR0.out, blk_below P3.out HR0.out⟩ (fun hHeld => ?_)
        clear hK K hHeld
        refine norm_ (a' := ?_) ?_ ?_
        rotate_left
        · show Act.put _ (some 38) _ = _
          simp only [Act.put, List.setIfInBounds_toArray, List.set_cons_zero, List.set_cons_succ, i64_w, i32_w]
          rfl
        refine one_ (i := 3) (N := some 39) (bt_ 12 271) rfl rfl (by kernel_rfl) (by decide) (fun K hK => ?_)
        refine goes_ Try.func31 (by kernel_rfl) rfl #[.agg #[.int .i64 s, .slice XA L1.length xa, .slice XB L2.length xb], .agg #[.int .i64 a, .int .i64 b, .bool c, .bool d]] (by rfl) rfl rfl (by simp only [List.map_toArray, List.map_cons, List.map_nil]; rfl) ?_
        have QX1' := Aside0.mk (Row.below QX1.out HR0.out)
        have QX2' := Aside0.mk (Row.below QX2.out HR0.out)
        refine (ask_calls s XA xa L1 XB xb L2 ⟨a, b, c, d⟩ r1 r2 r3 r4 r5 W29 (QX1'.out.reads).2.2 (QX1'.out.reads).2.1 (QX2'.out.reads).2.2 (QX2'.out.reads).2.1 HLL.out.1 HLL.out.2 HASK.out).mono ?_
        rintro e W30 ⟨v1, v2, v4, rfl, q1, q2, q4, hb⟩
        refine ⟨_, rfl, ?_⟩
        have SP1 := Aside0.mk (show ∀ k, v1.ownBlock = some k → v2.ownBlock ≠ some k ∧ v4.ownBlock ≠ some k from fun k hk => ⟨fun e => (q1.1 k hk).1 e.symm, fun e => (q1.1 k hk).2 e.symm⟩)
        have SP2 := Aside0.mk (show ∀ k, v2.ownBlock = some k → v4.ownBlock ≠ some k from fun k hk e => (q2.1 k hk).2 e.symm)
        have Q1 := Aside0.mk (Row.of q1 HW.out.size)
        have Q2 := Aside0.mk (Row.of q2 HW.out.size)
        have Q4 := Aside0.mk (Row.of q4 HW.out.size)
        clear q1 q2 q4
        have z30 := Aside0.mk hb.size
        have PB := Aside0.mk (blk_below PB.out hb)
        have HR0 := Aside0.mk (below_step HR0.out hb)
        have HW := Aside0.mk (below_step HW.out hb)
        clear hb
        refine hK.out _ _ ⟨blk_below P9.out HR0.out, blk_below P3.out HR0.out⟩ (fun hHeld => ?_)
        clear hK K hHeld
        refine norm_ (a' := ?_) ?_ ?_
        rotate_left
        · show Act.put _ (some 39) _ = _
          simp only [Act.put, List.setIfInBounds_toArray, List.set_cons_zero, List.set_cons_succ, i64_w, i32_w]
          rfl
        refine pu_ 4 (some 35) (bt_ 12 287) (by kernel_rfl) ?_
        refine pu_ 5 (some 40) (bt_ 12 319) (by kernel_rfl) ?_
        refine pu_ 6 (some 41) (bt_ 12 383) (by kernel_rfl) ?_
        refine pu_ 7 (some 42) (bt_ 12 511) (by kernel_rfl) ?_
        have FF : Below W22.heap.size W22 W30 ∧ W30.heap[bn]? = some (.cells #[.int .i64 0, .slice none 0 0, .slice none 0 0] 29 (0, 0)) ∧ W22.heap.size ≤ bn ∧ Row w.heap.size W30 W22.heap.size W30.heap.size v1 r2 ∧ Row w.heap.size W30 W22.heap.size W30.heap.size v2 r3 ∧ Row w.heap.size W30 W22.heap.size W30.heap.size v4 r5 ∧ ((v1 : Value).ownBlock ≠ some bn ∧ (v2 : Value).ownBlock ≠ some bn ∧ (v4 : Value).ownBlock ≠ some bn) ∧ (∀ k, (v1 : Value).ownBlock = some k → (v2 : Value).ownBlock ≠ some k ∧ (v4 : Value).ownBlock ≠ some k) ∧ (∀ k, (v2 : Value).ownBlock = some k → (v4 : Value).ownBlock ≠ some k) := ⟨HR0.out, PB.out, GD.out, Row.wide Q1.out (by have := GD.out; have := GH.out; have := GB.out; have := z29.out; have := z30.out; omega) (by have := GD.out; have := GH.out; have := GB.out; have := z29.out; have := z30.out; omega), Row.wide Q2.out (by have := GD.out; have := GH.out; have := GB.out; have := z29.out; have := z30.out; omega) (by have := GD.out; have := GH.out; have := GB.out; have := z29.out; have := z30.out; omega), Row.wide Q4.out (by have := GD.out; have := GH.out; have := GB.out; have := z29.out; have := z30.out; omega) (by have := GD.out; have := GH.out; have := GB.out; have := z29.out; have := z30.out; omega), ⟨fun e => by have := Q1.out.at_ e; have := GD.out; have := GH.out; have := GB.out; have := z29.out; have := z30.out; omega, fun e => by have := Q2.out.at_ e; have := GD.out; have := GH.out; have := GB.out; have := z29.out; have := z30.out; omega, fun e => by have := Q4.out.at_ e; have := GD.out; have := GH.out; have := GB.out; have := z29.out; have := z30.out; omega⟩, SP1.out, SP2.out⟩
        exact norm_ (by simp only [putAll, Act.put, List.setIfInBounds_toArray, List.set_cons_zero, List.set_cons_succ]) (hCont (v1, v2, v4, bn) _ FF)
    rintro ⟨v1, v2, v4, b10⟩ W31 ⟨hb, pb, gb, f1, f2, f4, nb, sp1, sp2⟩
    have ZLb : Aside0 (W22.heap.size ≤ b10) := ⟨gb⟩
    have ZHb : Aside0 (b10 < W31.heap.size) := ⟨blk_lt pb⟩
    have Z3215 := Aside0.mk (hb).size
    have P2 := Aside0.mk (blk_below P2.out hb)
    have P3 := Aside0.mk (blk_below P3.out hb)
    have P6 := Aside0.mk (blk_below P6.out hb)
    have P9 := Aside0.mk (blk_below P9.out hb)
    have QW1 := Aside0.mk (Row.below QW1.out hb)
    have QW2 := Aside0.mk (Row.below QW2.out hb)
    have QW5 := Aside0.mk (Row.below QW5.out hb)
    have QX1 := Aside0.mk (Row.below QX1.out hb)
    have QX2 := Aside0.mk (Row.below QX2.out hb)
    have HB := Aside0.mk (below_step HB.out hb)
    clear hb
    have P10 : Aside0 (W31.heap[b10]? = some (.cells #[.int .i64 0, .slice none 0 0, .slice none 0 0] 29 (0, 0))) := ⟨pb⟩
    have QG1 : Aside0 (Row w.heap.size W31 W22.heap.size W31.heap.size v1 r2) := ⟨f1⟩
    have QG2 : Aside0 (Row w.heap.size W31 W22.heap.size W31.heap.size v2 r3) := ⟨f2⟩
    have QG5 : Aside0 (Row w.heap.size W31 W22.heap.size W31.heap.size v4 r5) := ⟨f4⟩
    have NBb : Aside0 (((v1 : Value).ownBlock ≠ some b10 ∧ (v2 : Value).ownBlock ≠ some b10 ∧ (v4 : Value).ownBlock ≠ some b10)) := ⟨nb⟩
    have SAb : Aside0 ((∀ k, (v1 : Value).ownBlock = some k → (v2 : Value).ownBlock ≠ some k ∧ (v4 : Value).ownBlock ≠ some k)) := ⟨sp1⟩
    have SBb : Aside0 ((∀ k, (v2 : Value).ownBlock = some k → (v4 : Value).ownBlock ≠ some k)) := ⟨sp2⟩
    clear pb gb f1 f2 f4 nb sp1 sp2
    obtain ⟨H1, h1_, e0⟩ := Row.slice QG1.out
    subst e0
    obtain ⟨H2, h2_, e0⟩ := Row.slice QG2.out
    subst e0
    obtain ⟨H5, h5_, e0⟩ := Row.slice QG5.out
    subst e0
    refine norm_ (a' := ?_) ?_ ?_
    rotate_left
    · simp only [putAll, Act.put, List.setIfInBounds_toArray, List.set_cons_zero, List.set_cons_succ]
      rfl
    refine one_ (i := 9) (N := none) (bt_ 12 1023) rfl rfl (by kernel_rfl) (by decide) (fun K hK => ?_)
    refine st_ rfl 29 (.tmp 10) (.tmp 40) rfl b10 #[.int .i64 r1, .slice H1 r2.length h1_, .slice H2 r3.length h2_] rfl rfl 29 #[.int .i64 0, .slice none 0 0, .slice none 0 0] P10.out (by kernel_rfl) rfl (by simp [Value.oneCell']) ?_
    have P2 := Aside0.mk ((setRow_other W31 b10 w.heap.size #[.int .i64 r1, .slice H1 r2.length h1_, .slice H2 r3.length h2_] (by have := Z1.out; have := Z2.out; have := Z202.out; have := Za.out; have := ZLa.out; have := ZHa.out; have := Z1806.out; have := Z1018.out; have := Z1908.out; have := Z2109.out; have := ZHn.out; have := ZLn.out; have := Zb.out; have := ZLb.out; have := ZHb.out; have := Z3215.out; omega)).trans P2.out)
    have P3 := Aside0.mk ((setRow_other W31 b10 b3 #[.int .i64 r1, .slice H1 r2.length h1_, .slice H2 r3.length h2_] (by have := Z1.out; have := Z2.out; have := Z202.out; have := Za.out; have := ZLa.out; have := ZHa.out; have := Z1806.out; have := Z1018.out; have := Z1908.out; have := Z2109.out; have := ZHn.out; have := ZLn.out; have := Zb.out; have := ZLb.out; have := ZHb.out; have := Z3215.out; omega)).trans P3.out)
    have P6 := Aside0.mk ((setRow_other W31 b10 b6 #[.int .i64 r1, .slice H1 r2.length h1_, .slice H2 r3.length h2_] (by have := Z1.out; have := Z2.out; have := Z202.out; have := Za.out; have := ZLa.out; have := ZHa.out; have := Z1806.out; have := Z1018.out; have := Z1908.out; have := Z2109.out; have := ZHn.out; have := ZLn.out; have := Zb.out; have := ZLb.out; have := ZHb.out; have := Z3215.out; omega)).trans P6.out)
    have P9 := Aside0.mk ((setRow_other W31 b10 b9 #[.int .i64 r1, .slice H1 r2.length h1_, .slice H2 r3.length h2_] (by have := Z1.out; have := Z2.out; have := Z202.out; have := Za.out; have := ZLa.out; have := ZHa.out; have := Z1806.out; have := Z1018.out; have := Z1908.out; have := Z2109.out; have := ZHn.out; have := ZLn.out; have := Zb.out; have := ZLb.out; have := ZHb.out; have := Z3215.out; omega)).trans P9.out)
    have QW1 := Aside0.mk (Row.row QW1.out #[.int .i64 r1, .slice H1 r2.length h1_, .slice H2 r3.length h2_] (b := b10) (by right; have := Z1.out; have := Z2.out; have := Z202.out; have := Za.out; have := ZLa.out; have := ZHa.out; have := Z1806.out; have := Z1018.out; have := Z1908.out; have := Z2109.out; have := ZHn.out; have := ZLn.out; have := Zb.out; have := ZLb.out; have := ZHb.out; have := Z3215.out; omega))
    have QW2 := Aside0.mk (Row.row QW2.out #[.int .i64 r1, .slice H1 r2.length h1_, .slice H2 r3.length h2_] (b := b10) (by right; have := Z1.out; have := Z2.out; have := Z202.out; have := Za.out; have := ZLa.out; have := ZHa.out; have := Z1806.out; have := Z1018.out; have := Z1908.out; have := Z2109.out; have := ZHn.out; have := ZLn.out; have := Zb.out; have := ZLb.out; have := ZHb.out; have := Z3215.out; omega))
    have QW5 := Aside0.mk (Row.row QW5.out #[.int .i64 r1, .slice H1 r2.length h1_, .slice H2 r3.length h2_] (b := b10) (by right; have := Z1.out; have := Z2.out; have := Z202.out; have := Za.out; have := ZLa.out; have := ZHa.out; have := Z1806.out; have := Z1018.out; have := Z1908.out; have := Z2109.out; have := ZHn.out; have := ZLn.out; have := Zb.out; have := ZLb.out; have := ZHb.out; have := Z3215.out; omega))
    have QX1 := Aside0.mk (Row.row QX1.out #[.int .i64 r1, .slice H1 r2.length h1_, .slice H2 r3.length h2_] (b := b10) (by right; have := Z1.out; have := Z2.out; have := Z202.out; have := Za.out; have := ZLa.out; have := ZHa.out; have := Z1806.out; have := Z1018.out; have := Z1908.out; have := Z2109.out; have := ZHn.out; have := ZLn.out; have := Zb.out; have := ZLb.out; have := ZHb.out; have := Z3215.out; omega))
    have QX2 := Aside0.mk (Row.row QX2.out #[.int .i64 r1, .slice H1 r2.length h1_, .slice H2 r3.length h2_] (b := b10) (by right; have := Z1.out; have := Z2.out; have := Z202.out; have := Za.out; have := ZLa.out; have := ZHa.out; have := Z1806.out; have := Z1018.out; have := Z1908.out; have := Z2109.out; have := ZHn.out; have := ZLn.out; have := Zb.out; have := ZLb.out; have := ZHb.out; have := Z3215.out; omega))
    have QG1 := Aside0.mk (Row.sep QG1.out #[.int .i64 r1, .slice H1 r2.length h1_, .slice H2 r3.length h2_] (b := b10) NBb.out.1)
    have QG2 := Aside0.mk (Row.sep QG2.out #[.int .i64 r1, .slice H1 r2.length h1_, .slice H2 r3.length h2_] (b := b10) NBb.out.2.1)
    have QG5 := Aside0.mk (Row.sep QG5.out #[.int .i64 r1, .slice H1 r2.length h1_, .slice H2 r3.length h2_] (b := b10) NBb.out.2.2)
    have P10 := Aside0.mk (setRow_heap W31 b10 _ #[.int .i64 r1, .slice H1 r2.length h1_, .slice H2 r3.length h2_] 29 (0, 0) P10.out)
    have HB := Aside0.mk (below_setRow HB.out (show w.heap.size ≤ b10 by have := Z1.out; have := Z2.out; have := Z202.out; have := Za.out; have := ZLa.out; have := ZHa.out; have := Z1806.out; have := Z1018.out; have := Z1908.out; have := Z2109.out; have := ZHn.out; have := ZLn.out; have := Zb.out; have := ZLb.out; have := ZHb.out; have := Z3215.out; omega) #[.int .i64 r1, .slice H1 r2.length h1_, .slice H2 r3.length h2_])
    have Z1032 := Aside0.mk (show W31.heap.size ≤ (W31.setRow b10 #[.int .i64 r1, .slice H1 r2.length h1_, .slice H2 r3.length h2_]).heap.size by simp [World.setRow])
    generalize W31.setRow b10 #[.int .i64 r1, .slice H1 r2.length h1_, .slice H2 r3.length h2_] = W32 at P10 P2 P3 P6 P9 QW1 QW2 QW5 QX1 QX2 QG1 QG2 QG5 HB Z1032 ⊢
    refine hK.out _ _ ⟨P9.out, P3.out⟩ (fun hHeld => ?_)
    clear hK K hHeld
    refine norm_ (a' := ?_) ?_ ?_
    rotate_left
    · show Act.put _ none _ = _
      simp only [Act.put, List.setIfInBounds_toArray, List.set_cons_zero, List.set_cons_succ, i64_w, i32_w]
      rfl
    refine pu_ 10 (some 11) (bt_ 12 2047) (by kernel_rfl) ?_
    refine pu_ 11 (some 12) (bt_ 12 4095) (by kernel_rfl) ?_
    refine done_ (by kernel_rfl) ?_
    go_wp2_with (first | ((with_reducible refine gate_dst (N := 43) rfl ?_); refine wpList_load_row rfl 29 (.tmp 10) rfl b10 rfl 29 #[.int .i64 r1, .slice H1 r2.length h1_, .slice H2 r3.length h2_] (0, 0) _ P10.out hu29 rfl (by kernel_rfl) ?_) | ((with_reducible refine gate_dst (N := 44) rfl ?_); refine wpList_load_row rfl 29 (.tmp 6) rfl b6 rfl 29 #[.int .i64 r1, .slice V1 r2.length v1_, .slice V2 r3.length v2_] (0, 0) _ P6.out hu29 rfl (by kernel_rfl) ?_))
    refine (laws_eqLock.calls k r1 H1 h1_ r2 H2 h2_ r3 r1 V1 v1_ r2 V2 v2_ r3 true W32 (QG1.out.reads).2.2 (QG1.out.reads).2.1 (QG2.out.reads).2.2 (QG2.out.reads).2.1 (QW1.out.reads).2.2 (QW1.out.reads).2.1 (QW2.out.reads).2.2 (QW2.out.reads).2.1 HE1.out).mono ?_
    rintro e W33 ⟨rfl, hb⟩
    have Z3317 := Aside0.mk (hb).size
    have P2 := Aside0.mk (blk_below P2.out hb)
    have P3 := Aside0.mk (blk_below P3.out hb)
    have P6 := Aside0.mk (blk_below P6.out hb)
    have P9 := Aside0.mk (blk_below P9.out hb)
    have P10 := Aside0.mk (blk_below P10.out hb)
    have QW1 := Aside0.mk (Row.below QW1.out hb)
    have QW2 := Aside0.mk (Row.below QW2.out hb)
    have QW5 := Aside0.mk (Row.below QW5.out hb)
    have QX1 := Aside0.mk (Row.below QX1.out hb)
    have QX2 := Aside0.mk (Row.below QX2.out hb)
    have QG1 := Aside0.mk (Row.below QG1.out hb)
    have QG2 := Aside0.mk (Row.below QG2.out hb)
    have QG5 := Aside0.mk (Row.below QG5.out hb)
    have HB := Aside0.mk (below_step HB.out hb)
    clear hb
    go_wp2_with (fail)
    refine (laws_eqHoldS.calls k H5 h5_ r5 V5 v5_ r5 true W33 (QG5.out.reads).2.2 (QG5.out.reads).2.1 (QW5.out.reads).2.2 (QW5.out.reads).2.1 HE2.out).mono ?_
    rintro e W34 ⟨rfl, hb⟩
    have Z3418 := Aside0.mk (hb).size
    have P2 := Aside0.mk (blk_below P2.out hb)
    have P3 := Aside0.mk (blk_below P3.out hb)
    have P6 := Aside0.mk (blk_below P6.out hb)
    have P9 := Aside0.mk (blk_below P9.out hb)
    have P10 := Aside0.mk (blk_below P10.out hb)
    have QW1 := Aside0.mk (Row.below QW1.out hb)
    have QW2 := Aside0.mk (Row.below QW2.out hb)
    have QW5 := Aside0.mk (Row.below QW5.out hb)
    have QX1 := Aside0.mk (Row.below QX1.out hb)
    have QX2 := Aside0.mk (Row.below QX2.out hb)
    have QG1 := Aside0.mk (Row.below QG1.out hb)
    have QG2 := Aside0.mk (Row.below QG2.out hb)
    have QG5 := Aside0.mk (Row.below QG5.out hb)
    have HB := Aside0.mk (below_step HB.out hb)
    clear hb
    go_wp2_with (fail)
    have ZK34 := Aside0.mk (show w.heap.size < b3 ∧ b3 < W3.heap.size ∧ W3.heap.size ≤ b6 ∧ b6 < W17.heap.size ∧ W17.heap.size ≤ W18.heap.size ∧ W18.heap.size ≤ W19.heap.size ∧ W19.heap.size ≤ b9 ∧ b9 < W22.heap.size ∧ W22.heap.size ≤ b10 ∧ b10 < W31.heap.size ∧ W31.heap.size ≤ W34.heap.size from ⟨by have := Z1.out; have := Z2.out; have := Z202.out; have := Za.out; have := ZLa.out; have := ZHa.out; have := Z1806.out; have := Z1018.out; have := Z1908.out; have := Z2109.out; have := ZHn.out; have := ZLn.out; have := Zb.out; have := ZLb.out; have := ZHb.out; have := Z3215.out; have := Z1032.out; have := Z3317.out; have := Z3418.out; omega, by have := Z1.out; have := Z2.out; have := Z202.out; have := Za.out; have := ZLa.out; have := ZHa.out; have := Z1806.out; have := Z1018.out; have := Z1908.out; have := Z2109.out; have := ZHn.out; have := ZLn.out; have := Zb.out; have := ZLb.out; have := ZHb.out; have := Z3215.out; have := Z1032.out; have := Z3317.out; have := Z3418.out; omega, by have := Z1.out; have := Z2.out; have := Z202.out; have := Za.out; have := ZLa.out; have := ZHa.out; have := Z1806.out; have := Z1018.out; have := Z1908.out; have := Z2109.out; have := ZHn.out; have := ZLn.out; have := Zb.out; have := ZLb.out; have := ZHb.out; have := Z3215.out; have := Z1032.out; have := Z3317.out; have := Z3418.out; omega, by have := Z1.out; have := Z2.out; have := Z202.out; have := Za.out; have := ZLa.out; have := ZHa.out; have := Z1806.out; have := Z1018.out; have := Z1908.out; have := Z2109.out; have := ZHn.out; have := ZLn.out; have := Zb.out; have := ZLb.out; have := ZHb.out; have := Z3215.out; have := Z1032.out; have := Z3317.out; have := Z3418.out; omega, by have := Z1.out; have := Z2.out; have := Z202.out; have := Za.out; have := ZLa.out; have := ZHa.out; have := Z1806.out; have := Z1018.out; have := Z1908.out; have := Z2109.out; have := ZHn.out; have := ZLn.out; have := Zb.out; have := ZLb.out; have := ZHb.out; have := Z3215.out; have := Z1032.out; have := Z3317.out; have := Z3418.out; omega, by have := Z1.out; have := Z2.out; have := Z202.out; have := Za.out; have := ZLa.out; have := ZHa.out; have := Z1806.out; have := Z1018.out; have := Z1908.out; have := Z2109.out; have := ZHn.out; have := ZLn.out; have := Zb.out; have := ZLb.out; have := ZHb.out; have := Z3215.out; have := Z1032.out; have := Z3317.out; have := Z3418.out; omega, by have := Z1.out; have := Z2.out; have := Z202.out; have := Za.out; have := ZLa.out; have := ZHa.out; have := Z1806.out; have := Z1018.out; have := Z1908.out; have := Z2109.out; have := ZHn.out; have := ZLn.out; have := Zb.out; have := ZLb.out; have := ZHb.out; have := Z3215.out; have := Z1032.out; have := Z3317.out; have := Z3418.out; omega, by have := Z1.out; have := Z2.out; have := Z202.out; have := Za.out; have := ZLa.out; have := ZHa.out; have := Z1806.out; have := Z1018.out; have := Z1908.out; have := Z2109.out; have := ZHn.out; have := ZLn.out; have := Zb.out; have := ZLb.out; have := ZHb.out; have := Z3215.out; have := Z1032.out; have := Z3317.out; have := Z3418.out; omega, by have := Z1.out; have := Z2.out; have := Z202.out; have := Za.out; have := ZLa.out; have := ZHa.out; have := Z1806.out; have := Z1018.out; have := Z1908.out; have := Z2109.out; have := ZHn.out; have := ZLn.out; have := Zb.out; have := ZLb.out; have := ZHb.out; have := Z3215.out; have := Z1032.out; have := Z3317.out; have := Z3418.out; omega, by have := Z1.out; have := Z2.out; have := Z202.out; have := Za.out; have := ZLa.out; have := ZHa.out; have := Z1806.out; have := Z1018.out; have := Z1908.out; have := Z2109.out; have := ZHn.out; have := ZLn.out; have := Zb.out; have := ZLb.out; have := ZHb.out; have := Z3215.out; have := Z1032.out; have := Z3317.out; have := Z3418.out; omega, by have := Z1.out; have := Z2.out; have := Z202.out; have := Za.out; have := ZLa.out; have := ZHa.out; have := Z1806.out; have := Z1018.out; have := Z1908.out; have := Z2109.out; have := ZHn.out; have := ZLn.out; have := Zb.out; have := ZLb.out; have := ZHb.out; have := Z3215.out; have := Z1032.out; have := Z3317.out; have := Z3418.out; omega⟩)
    clear Z1 Z2 Z202 Za ZLa ZHa Z1806 Z1018 Z1908 Z2109 ZHn ZLn Zb ZLb ZHb Z3215 Z1032 Z3317 Z3418
    have P2 := Aside0.mk (blk_drew P2.out)
    have P3 := Aside0.mk (blk_drew P3.out)
    have P6 := Aside0.mk (blk_drew P6.out)
    have P9 := Aside0.mk (blk_drew P9.out)
    have P10 := Aside0.mk (blk_drew P10.out)
    have QW1 := Aside0.mk (show Row _ _ _ _ _ _ from Kd.R_drew QW1.out)
    have QW2 := Aside0.mk (show Row _ _ _ _ _ _ from Kd.R_drew QW2.out)
    have QW5 := Aside0.mk (show Row _ _ _ _ _ _ from Kd.R_drew QW5.out)
    have QX1 := Aside0.mk (show Row _ _ _ _ _ _ from Kd.R_drew QX1.out)
    have QX2 := Aside0.mk (show Row _ _ _ _ _ _ from Kd.R_drew QX2.out)
    have QG1 := Aside0.mk (show Row _ _ _ _ _ _ from Kd.R_drew QG1.out)
    have QG2 := Aside0.mk (show Row _ _ _ _ _ _ from Kd.R_drew QG2.out)
    have QG5 := Aside0.mk (show Row _ _ _ _ _ _ from Kd.R_drew QG5.out)
    have HB := Aside0.mk (below_drew1 HB.out)
    have HSS := (show (W34.drew).heap[b9]? = some (.cells #[.int .i64 s, .slice XA L1.length xa, .slice XB L2.length xb] 29 (0, 0)) ∧ (W34.drew).heap[w.heap.size]? = some (.cells #[.int .i64 s, .slice A1 l1.length c1, .slice A2 l2.length c2] 24 (0, 0)) from ⟨P9.out, P2.out⟩)
    refine start_ (n := 5) (S := fun w' => w'.heap[b9]? = some (.cells #[.int .i64 s, .slice XA L1.length xa, .slice XB L2.length xb] 29 (0, 0)) ∧ w'.heap[w.heap.size]? = some (.cells #[.int .i64 s, .slice A1 l1.length c1, .slice A2 l2.length c2] 24 (0, 0))) (ds := []) (bt_ 5 0) (by kernel_rfl) rfl rfl HSS (fun hHeld => ?_)
    have Zy : Aside0 (W34.heap.size ≤ (W34.drew).heap.size) := ⟨Nat.le_refl _⟩
    clear HSS
    generalize W34.drew = W35 at P2 P3 P6 P9 P10 QW1 QW2 QW5 QX1 QX2 QG1 QG2 QG5 HB Zy hHeld ⊢
    refine ld_ 0 (some 58) (bt_ 5 1) b9 29 (.tmp 9) #[.int .i64 s, .slice XA L1.length xa, .slice XB L2.length xb] _ (by kernel_rfl) hHeld (fun _ h_ => h_.1) hu29 rfl (by kernel_rfl) ?_
    refine ld_ 1 (some 59) (bt_ 5 3) w.heap.size 24 (.tmp 2) #[.int .i64 s, .slice A1 l1.length c1, .slice A2 l2.length c2] _ (by kernel_rfl) hHeld (fun _ h_ => h_.2) hu24 rfl (by kernel_rfl) ?_
    clear hHeld
    refine one_ (i := 2) (N := some 60) (bt_ 5 7) rfl rfl (by kernel_rfl) (by decide) (fun K hK => ?_)
    refine goes_ Try.func17 (by kernel_rfl) rfl #[.agg #[.int .i64 s, .slice A1 l1.length c1, .slice A2 l2.length c2]] (by rfl) rfl rfl (by simp only [List.map_toArray, List.map_cons, List.map_nil]; rfl) ?_
    refine (laws_toLock.calls k s A1 c1 l1 A2 c2 l2 s L1 L2 W35 (Kd.C_below HR1.out HB.out) HC1.out (Kd.C_below HR2.out HB.out) HC2.out HTO.out).mono ?_
    rintro e W36 ⟨va, vb, rfl, qa, qb, hb⟩
    refine ⟨_, rfl, ?_⟩
    obtain ⟨YA, ya, e0⟩ := Kd.R_slice qa
    subst e0
    obtain ⟨YB, yb, e0⟩ := Kd.R_slice qb
    subst e0
    have q1 := Row.of qa HB.out.size
    have q2 := Row.of qb HB.out.size
    clear qa qb
    have Z3602 := Aside0.mk (hb).size
    have P2 := Aside0.mk (blk_below P2.out hb)
    have P3 := Aside0.mk (blk_below P3.out hb)
    have P6 := Aside0.mk (blk_below P6.out hb)
    have P9 := Aside0.mk (blk_below P9.out hb)
    have P10 := Aside0.mk (blk_below P10.out hb)
    have QW1 := Aside0.mk (Row.below QW1.out hb)
    have QW2 := Aside0.mk (Row.below QW2.out hb)
    have QW5 := Aside0.mk (Row.below QW5.out hb)
    have QX1 := Aside0.mk (Row.below QX1.out hb)
    have QX2 := Aside0.mk (Row.below QX2.out hb)
    have QG1 := Aside0.mk (Row.below QG1.out hb)
    have QG2 := Aside0.mk (Row.below QG2.out hb)
    have QG5 := Aside0.mk (Row.below QG5.out hb)
    have HB := Aside0.mk (below_step HB.out hb)
    clear hb
    have QY1 := Aside0.mk q1
    have QY2 := Aside0.mk q2
    clear q1 q2
    refine hK.out _ _ ⟨P9.out, P2.out⟩ (fun hHeld => ?_)
    clear hK K hHeld
    refine norm_ (a' := ?_) ?_ ?_
    rotate_left
    · show Act.put _ (some 60) _ = _
      simp only [Act.put, List.setIfInBounds_toArray, List.set_cons_zero, List.set_cons_succ, i64_w, i32_w]
      rfl
    refine one_ (i := 3) (N := some 61) (bt_ 5 15) rfl rfl (by kernel_rfl) (by decide) (fun K hK => ?_)
    refine goes_ Try.func19 (by kernel_rfl) rfl #[.agg #[.int .i64 s, .slice XA L1.length xa, .slice XB L2.length xb], .agg #[.int .i64 s, .slice YA L1.length ya, .slice YB L2.length yb]] (by rfl) rfl rfl (by simp only [List.map_toArray, List.map_cons, List.map_nil]; rfl) ?_
    refine (laws_eqLock.calls k s XA xa L1 XB xb L2 s YA ya L1 YB yb L2 true W36 (QX1.out.reads).2.2 (QX1.out.reads).2.1 (QX2.out.reads).2.2 (QX2.out.reads).2.1 (QY1.out.reads).2.2 (QY1.out.reads).2.1 (QY2.out.reads).2.2 (QY2.out.reads).2.1 HE3.out).mono ?_
    rintro e W37 ⟨rfl, hb⟩
    have Z3703 := Aside0.mk (hb).size
    have P2 := Aside0.mk (blk_below P2.out hb)
    have P3 := Aside0.mk (blk_below P3.out hb)
    have P6 := Aside0.mk (blk_below P6.out hb)
    have P9 := Aside0.mk (blk_below P9.out hb)
    have P10 := Aside0.mk (blk_below P10.out hb)
    have QW1 := Aside0.mk (Row.below QW1.out hb)
    have QW2 := Aside0.mk (Row.below QW2.out hb)
    have QW5 := Aside0.mk (Row.below QW5.out hb)
    have QX1 := Aside0.mk (Row.below QX1.out hb)
    have QX2 := Aside0.mk (Row.below QX2.out hb)
    have QG1 := Aside0.mk (Row.below QG1.out hb)
    have QG2 := Aside0.mk (Row.below QG2.out hb)
    have QG5 := Aside0.mk (Row.below QG5.out hb)
    have QY1 := Aside0.mk (Row.below QY1.out hb)
    have QY2 := Aside0.mk (Row.below QY2.out hb)
    have HB := Aside0.mk (below_step HB.out hb)
    clear hb
    refine ⟨_, rfl, ?_⟩
    refine hK.out _ _ ⟨P9.out, P2.out⟩ (fun hHeld => ?_)
    clear hK K hHeld
    refine norm_ (a' := ?_) ?_ ?_
    rotate_left
    · show Act.put _ (some 61) _ = _
      simp only [Act.put, List.setIfInBounds_toArray, List.set_cons_zero, List.set_cons_succ, i64_w, i32_w]
      rfl
    refine pu_ 4 (some 62) (bt_ 5 31) (by kernel_rfl) ?_
    refine done_ (by kernel_rfl) ?_
    clear QY1 QY2
    go_wp2_with (((with_reducible refine gate_dst (N := 63) rfl ?_); refine wpList_load_row rfl 29 (.tmp 9) rfl b9 rfl 29 #[.int .i64 s, .slice XA L1.length xa, .slice XB L2.length xb] (0, 0) _ P9.out hu29 rfl (by kernel_rfl) ?_))
    refine (laws_markLock.calls k s (fun k_ => (.slice XA L1.length xa : Value).ownBlock = some k_ ∧ W18.heap.size ≤ k_ ∧ k_ < W19.heap.size) (.slice XA L1.length xa) L1 (fun k_ => (.slice XB L2.length xb : Value).ownBlock = some k_ ∧ W18.heap.size ≤ k_ ∧ k_ < W19.heap.size) (.slice XB L2.length xb) L2 1 m1 X1 X2 w W37 HB.out QX1.out (fun k_ h1 h2 => SX.out k_ h1.1 h2.1) QX2.out (fun k_ h2 h1 => SX.out k_ h1.1 h2.1) HMX.out).mono ?_
    rintro e W38 ⟨rfl, g1, g2, hb, hk⟩
    have Z2038 := Aside0.mk hk.1
    have P2 := Aside0.mk (blk_kept P2.out hk (fun h_ => by (try rcases h_ with h_ | h_) <;> (have a1 := h_.2.1; have a2 := h_.2.2; have := ZK34.out; have := Zy.out; have := Z3602.out; have := Z3703.out; have := Z2038.out; omega)))
    have P3 := Aside0.mk (blk_kept P3.out hk (fun h_ => by (try rcases h_ with h_ | h_) <;> (have a1 := h_.2.1; have a2 := h_.2.2; have := ZK34.out; have := Zy.out; have := Z3602.out; have := Z3703.out; have := Z2038.out; omega)))
    have P6 := Aside0.mk (blk_kept P6.out hk (fun h_ => by (try rcases h_ with h_ | h_) <;> (have a1 := h_.2.1; have a2 := h_.2.2; have := ZK34.out; have := Zy.out; have := Z3602.out; have := Z3703.out; have := Z2038.out; omega)))
    have P9 := Aside0.mk (blk_kept P9.out hk (fun h_ => by (try rcases h_ with h_ | h_) <;> (have a1 := h_.2.1; have a2 := h_.2.2; have := ZK34.out; have := Zy.out; have := Z3602.out; have := Z3703.out; have := Z2038.out; omega)))
    have P10 := Aside0.mk (blk_kept P10.out hk (fun h_ => by (try rcases h_ with h_ | h_) <;> (have a1 := h_.2.1; have a2 := h_.2.2; have := ZK34.out; have := Zy.out; have := Z3602.out; have := Z3703.out; have := Z2038.out; omega)))
    have QW1 := Aside0.mk (Row.kept QW1.out hk (fun k_ b1 b2 h_ => by (try rcases h_ with h_ | h_) <;> (have a1 := h_.2.1; have a2 := h_.2.2; have := ZK34.out; have := Zy.out; have := Z3602.out; have := Z3703.out; have := Z2038.out; omega)))
    have QW2 := Aside0.mk (Row.kept QW2.out hk (fun k_ b1 b2 h_ => by (try rcases h_ with h_ | h_) <;> (have a1 := h_.2.1; have a2 := h_.2.2; have := ZK34.out; have := Zy.out; have := Z3602.out; have := Z3703.out; have := Z2038.out; omega)))
    have QW5 := Aside0.mk (Row.kept QW5.out hk (fun k_ b1 b2 h_ => by (try rcases h_ with h_ | h_) <;> (have a1 := h_.2.1; have a2 := h_.2.2; have := ZK34.out; have := Zy.out; have := Z3602.out; have := Z3703.out; have := Z2038.out; omega)))
    have QG1 := Aside0.mk (Row.kept QG1.out hk (fun k_ b1 b2 h_ => by (try rcases h_ with h_ | h_) <;> (have a1 := h_.2.1; have a2 := h_.2.2; have := ZK34.out; have := Zy.out; have := Z3602.out; have := Z3703.out; have := Z2038.out; omega)))
    have QG2 := Aside0.mk (Row.kept QG2.out hk (fun k_ b1 b2 h_ => by (try rcases h_ with h_ | h_) <;> (have a1 := h_.2.1; have a2 := h_.2.2; have := ZK34.out; have := Zy.out; have := Z3602.out; have := Z3703.out; have := Z2038.out; omega)))
    have QG5 := Aside0.mk (Row.kept QG5.out hk (fun k_ b1 b2 h_ => by (try rcases h_ with h_ | h_) <;> (have a1 := h_.2.1; have a2 := h_.2.2; have := ZK34.out; have := Zy.out; have := Z3602.out; have := Z3703.out; have := Z2038.out; omega)))
    have HB := Aside0.mk hb
    clear hb hk
    clear g1 g2
    clear QX1 QX2
    have hmd : decide (m1 < 0) = false := decide_eq_false (by have := HMX0.out; omega)
    have hx0 := (blk_cell P10.out 0).trans (show _ = some (.int .i64 r1) from rfl)
    have hx1 := (blk_cell P10.out 1).trans (show _ = some (.slice H1 r2.length h1_) from rfl)
    have hx2 := (blk_cell P10.out 2).trans (show _ = some (.slice H2 r3.length h2_) from rfl)
    have hy0 := (blk_cell P6.out 0).trans (show _ = some (.int .i64 r1) from rfl)
    have hy1 := (blk_cell P6.out 1).trans (show _ = some (.slice V1 r2.length v1_) from rfl)
    have hy2 := (blk_cell P6.out 2).trans (show _ = some (.slice V2 r3.length v2_) from rfl)
    go_wp2_with (fail)
    clear hx0 hx1 hx2 hy0 hy1 hy2
    refine (laws_eqLock.calls k r1 H1 h1_ r2 H2 h2_ r3 r1 V1 v1_ r2 V2 v2_ r3 true W38 (QG1.out.reads).2.2 (QG1.out.reads).2.1 (QG2.out.reads).2.2 (QG2.out.reads).2.1 (QW1.out.reads).2.2 (QW1.out.reads).2.1 (QW2.out.reads).2.2 (QW2.out.reads).2.1 HE1.out).mono ?_
    rintro e W39 ⟨rfl, hb⟩
    have Z3905 := Aside0.mk (hb).size
    have P2 := Aside0.mk (blk_below P2.out hb)
    have P3 := Aside0.mk (blk_below P3.out hb)
    have P6 := Aside0.mk (blk_below P6.out hb)
    have P9 := Aside0.mk (blk_below P9.out hb)
    have P10 := Aside0.mk (blk_below P10.out hb)
    have QW1 := Aside0.mk (Row.below QW1.out hb)
    have QW2 := Aside0.mk (Row.below QW2.out hb)
    have QW5 := Aside0.mk (Row.below QW5.out hb)
    have QG1 := Aside0.mk (Row.below QG1.out hb)
    have QG2 := Aside0.mk (Row.below QG2.out hb)
    have QG5 := Aside0.mk (Row.below QG5.out hb)
    have HB := Aside0.mk (below_step HB.out hb)
    clear hb
    go_wp2_with (fail)
    refine (laws_eqHoldS.calls k H5 h5_ r5 V5 v5_ r5 true W39 (QG5.out.reads).2.2 (QG5.out.reads).2.1 (QW5.out.reads).2.2 (QW5.out.reads).2.1 HE2.out).mono ?_
    rintro e W40 ⟨rfl, hb⟩
    have Z4006 := Aside0.mk (hb).size
    have P2 := Aside0.mk (blk_below P2.out hb)
    have P3 := Aside0.mk (blk_below P3.out hb)
    have P6 := Aside0.mk (blk_below P6.out hb)
    have P9 := Aside0.mk (blk_below P9.out hb)
    have P10 := Aside0.mk (blk_below P10.out hb)
    have QW1 := Aside0.mk (Row.below QW1.out hb)
    have QW2 := Aside0.mk (Row.below QW2.out hb)
    have QW5 := Aside0.mk (Row.below QW5.out hb)
    have QG1 := Aside0.mk (Row.below QG1.out hb)
    have QG2 := Aside0.mk (Row.below QG2.out hb)
    have QG5 := Aside0.mk (Row.below QG5.out hb)
    have HB := Aside0.mk (below_step HB.out hb)
    clear hb
    go_wp2_with (((with_reducible refine gate_dst (N := 85) rfl ?_); refine wpList_load_row rfl 29 (.tmp 10) rfl b10 rfl 29 #[.int .i64 r1, .slice H1 r2.length h1_, .slice H2 r3.length h2_] (0, 0) _ P10.out hu29 rfl (by kernel_rfl) ?_))
    clear hmd
    have ZK40 := Aside0.mk (show w.heap.size < b3 ∧ b3 < W3.heap.size ∧ W3.heap.size ≤ b6 ∧ b6 < W17.heap.size ∧ W17.heap.size ≤ W18.heap.size ∧ W18.heap.size ≤ W19.heap.size ∧ W19.heap.size ≤ b9 ∧ b9 < W22.heap.size ∧ W22.heap.size ≤ b10 ∧ b10 < W31.heap.size ∧ W31.heap.size ≤ W40.heap.size from ⟨by have := ZK34.out; have := Zy.out; have := Z3602.out; have := Z3703.out; have := Z2038.out; have := Z3905.out; have := Z4006.out; omega, by have := ZK34.out; have := Zy.out; have := Z3602.out; have := Z3703.out; have := Z2038.out; have := Z3905.out; have := Z4006.out; omega, by have := ZK34.out; have := Zy.out; have := Z3602.out; have := Z3703.out; have := Z2038.out; have := Z3905.out; have := Z4006.out; omega, by have := ZK34.out; have := Zy.out; have := Z3602.out; have := Z3703.out; have := Z2038.out; have := Z3905.out; have := Z4006.out; omega, by have := ZK34.out; have := Zy.out; have := Z3602.out; have := Z3703.out; have := Z2038.out; have := Z3905.out; have := Z4006.out; omega, by have := ZK34.out; have := Zy.out; have := Z3602.out; have := Z3703.out; have := Z2038.out; have := Z3905.out; have := Z4006.out; omega, by have := ZK34.out; have := Zy.out; have := Z3602.out; have := Z3703.out; have := Z2038.out; have := Z3905.out; have := Z4006.out; omega, by have := ZK34.out; have := Zy.out; have := Z3602.out; have := Z3703.out; have := Z2038.out; have := Z3905.out; have := Z4006.out; omega, by have := ZK34.out; have := Zy.out; have := Z3602.out; have := Z3703.out; have := Z2038.out; have := Z3905.out; have := Z4006.out; omega, by have := ZK34.out; have := Zy.out; have := Z3602.out; have := Z3703.out; have := Z2038.out; have := Z3905.out; have := Z4006.out; omega, by have := ZK34.out; have := Zy.out; have := Z3602.out; have := Z3703.out; have := Z2038.out; have := Z3905.out; have := Z4006.out; omega⟩)
    clear ZK34 Zy Z3602 Z3703 Z2038 Z3905 Z4006
    refine (laws_markLock.calls k r1 (fun k_ => (.slice H1 r2.length h1_ : Value).ownBlock = some k_ ∧ W22.heap.size ≤ k_ ∧ k_ < W31.heap.size) (.slice H1 r2.length h1_) r2 (fun k_ => (.slice H2 r3.length h2_ : Value).ownBlock = some k_ ∧ W22.heap.size ≤ k_ ∧ k_ < W31.heap.size) (.slice H2 r3.length h2_) r3 1 n1 G1 G2 w W40 HB.out QG1.out (fun k_ h1 h2 => (SAb.out k_ h1.1).1 h2.1) QG2.out (fun k_ h2 h1 => (SAb.out k_ h1.1).1 h2.1) HMG.out).mono ?_
    rintro e W41 ⟨rfl, g1, g2, hb, hk⟩
    have g1 := Aside0.mk (show Row w.heap.size W41 W22.heap.size W31.heap.size (.slice H1 r2.length h1_) G1 from R4_own g1 (fun k_ hk_ => ⟨hk_, QG1.out.at_ hk_⟩))
    have g2 := Aside0.mk (show Row w.heap.size W41 W22.heap.size W31.heap.size (.slice H2 r3.length h2_) G2 from R4_own g2 (fun k_ hk_ => ⟨hk_, QG2.out.at_ hk_⟩))
    have Z2041 := Aside0.mk hk.1
    have P10 := Aside0.mk (blk_kept P10.out hk (fun h_ => h_.elim (fun h_ => NBb.out.1 h_.1) (fun h_ => NBb.out.2.1 h_.1)))
    have QG5 := Aside0.mk (show Row _ _ _ _ _ _ from Kd.R_kept QG5.out hk (fun k_ b1 h_ => h_.elim (fun h_ => (SAb.out k_ h_.1).2 b1.1) (fun h_ => SBb.out k_ h_.1 b1.1)))
    have P2 := Aside0.mk (blk_kept P2.out hk (fun h_ => by (try rcases h_ with h_ | h_) <;> (have a1 := h_.2.1; have a2 := h_.2.2; have := ZK40.out; have := Z2041.out; omega)))
    have P3 := Aside0.mk (blk_kept P3.out hk (fun h_ => by (try rcases h_ with h_ | h_) <;> (have a1 := h_.2.1; have a2 := h_.2.2; have := ZK40.out; have := Z2041.out; omega)))
    have P6 := Aside0.mk (blk_kept P6.out hk (fun h_ => by (try rcases h_ with h_ | h_) <;> (have a1 := h_.2.1; have a2 := h_.2.2; have := ZK40.out; have := Z2041.out; omega)))
    have P9 := Aside0.mk (blk_kept P9.out hk (fun h_ => by (try rcases h_ with h_ | h_) <;> (have a1 := h_.2.1; have a2 := h_.2.2; have := ZK40.out; have := Z2041.out; omega)))
    have QW1 := Aside0.mk (Row.kept QW1.out hk (fun k_ b1 b2 h_ => by (try rcases h_ with h_ | h_) <;> (have a1 := h_.2.1; have a2 := h_.2.2; have := ZK40.out; have := Z2041.out; omega)))
    have QW2 := Aside0.mk (Row.kept QW2.out hk (fun k_ b1 b2 h_ => by (try rcases h_ with h_ | h_) <;> (have a1 := h_.2.1; have a2 := h_.2.2; have := ZK40.out; have := Z2041.out; omega)))
    have QW5 := Aside0.mk (Row.kept QW5.out hk (fun k_ b1 b2 h_ => by (try rcases h_ with h_ | h_) <;> (have a1 := h_.2.1; have a2 := h_.2.2; have := ZK40.out; have := Z2041.out; omega)))
    have HB := Aside0.mk hb
    clear hb hk
    have QG1 := g1
    have QG2 := g2
    clear g1 g2
    go_wp2_with (fail)
    refine (laws_markHoldS.calls k (fun k_ => (.slice H5 r5.length h5_ : Value).ownBlock = some k_ ∧ W22.heap.size ≤ k_ ∧ k_ < W31.heap.size) (.slice H5 r5.length h5_) r5 n1 n2 G5 w W41 HB.out QG5.out HMH.out).mono ?_
    rintro e W42 ⟨rfl, g1, hb, hk⟩
    have g1 := Aside0.mk (show Row w.heap.size W42 W22.heap.size W31.heap.size (.slice H5 r5.length h5_) G5 from R4_own g1 (fun k_ hk_ => ⟨hk_, QG5.out.at_ hk_⟩))
    have Z2042 := Aside0.mk hk.1
    have P2 := Aside0.mk (blk_kept P2.out hk (fun h_ => by have a0 := h_.1; have a1 := h_.2.1; have a2 := h_.2.2; have := ZK40.out; have := Z2041.out; have := Z2042.out; omega))
    have P3 := Aside0.mk (blk_kept P3.out hk (fun h_ => by have a0 := h_.1; have a1 := h_.2.1; have a2 := h_.2.2; have := ZK40.out; have := Z2041.out; have := Z2042.out; omega))
    have P6 := Aside0.mk (blk_kept P6.out hk (fun h_ => by have a0 := h_.1; have a1 := h_.2.1; have a2 := h_.2.2; have := ZK40.out; have := Z2041.out; have := Z2042.out; omega))
    have P9 := Aside0.mk (blk_kept P9.out hk (fun h_ => by have a0 := h_.1; have a1 := h_.2.1; have a2 := h_.2.2; have := ZK40.out; have := Z2041.out; have := Z2042.out; omega))
    have P10 := Aside0.mk (blk_kept P10.out hk (fun h_ => by have a0 := h_.1; have a1 := h_.2.1; have a2 := h_.2.2; exact NBb.out.2.2 a0))
    have QW1 := Aside0.mk (Row.kept QW1.out hk (fun k_ b1 b2 h_ => by have a1 := h_.2.1; have a2 := h_.2.2; have := ZK40.out; have := Z2041.out; have := Z2042.out; omega))
    have QW2 := Aside0.mk (Row.kept QW2.out hk (fun k_ b1 b2 h_ => by have a1 := h_.2.1; have a2 := h_.2.2; have := ZK40.out; have := Z2041.out; have := Z2042.out; omega))
    have QW5 := Aside0.mk (Row.kept QW5.out hk (fun k_ b1 b2 h_ => by have a1 := h_.2.1; have a2 := h_.2.2; have := ZK40.out; have := Z2041.out; have := Z2042.out; omega))
    have QG1 := Aside0.mk (show Row _ _ _ _ _ _ from Kd.R_kept QG1.out hk (fun k_ b1 h_ => (SAb.out k_ b1.1).2 h_.1))
    have QG2 := Aside0.mk (show Row _ _ _ _ _ _ from Kd.R_kept QG2.out hk (fun k_ b1 h_ => SBb.out k_ b1.1 h_.1))
    have HB := Aside0.mk hb
    have QG5 := g1
    clear hb hk g1
    go_wp2_with (((with_reducible refine gate_dst (N := 91) rfl ?_); refine wpList_load_row rfl 29 (.tmp 10) rfl b10 rfl 29 #[.int .i64 r1, .slice H1 r2.length h1_, .slice H2 r3.length h2_] (0, 0) _ P10.out hu29 rfl (by kernel_rfl) ?_))
    have ZK42 := Aside0.mk (show w.heap.size < b3 ∧ b3 < W3.heap.size ∧ W3.heap.size ≤ b6 ∧ b6 < W17.heap.size ∧ W17.heap.size ≤ W18.heap.size ∧ W18.heap.size ≤ W19.heap.size ∧ W19.heap.size ≤ b9 ∧ b9 < W22.heap.size ∧ W22.heap.size ≤ b10 ∧ b10 < W31.heap.size ∧ W31.heap.size ≤ W42.heap.size from ⟨by have := ZK40.out; have := Z2041.out; have := Z2042.out; omega, by have := ZK40.out; have := Z2041.out; have := Z2042.out; omega, by have := ZK40.out; have := Z2041.out; have := Z2042.out; omega, by have := ZK40.out; have := Z2041.out; have := Z2042.out; omega, by have := ZK40.out; have := Z2041.out; have := Z2042.out; omega, by have := ZK40.out; have := Z2041.out; have := Z2042.out; omega, by have := ZK40.out; have := Z2041.out; have := Z2042.out; omega, by have := ZK40.out; have := Z2041.out; have := Z2042.out; omega, by have := ZK40.out; have := Z2041.out; have := Z2042.out; omega, by have := ZK40.out; have := Z2041.out; have := Z2042.out; omega, by have := ZK40.out; have := Z2041.out; have := Z2042.out; omega⟩)
    clear ZK40 Z2041 Z2042
    have hc_ := laws_heldLock.calls k r1 H1 h1_ G1 H2 h2_ G2 1 n1 W42 (QG1.out.reads).2.2 (by rw [HG1.out]; exact (QG1.out.reads).2.1) (QG2.out.reads).2.2 (by rw [HG2.out]; exact (QG2.out.reads).2.1) HHG.out
    rw [HG1.out, HG2.out] at hc_
    refine hc_.mono ?_
    clear hc_
    rintro e W43 ⟨rfl, hb⟩
    have Z4301 := Aside0.mk (hb).size
    have P2 := Aside0.mk (blk_below P2.out hb)
    have P3 := Aside0.mk (blk_below P3.out hb)
    have P6 := Aside0.mk (blk_below P6.out hb)
    have P9 := Aside0.mk (blk_below P9.out hb)
    have P10 := Aside0.mk (blk_below P10.out hb)
    have QW1 := Aside0.mk (Row.below QW1.out hb)
    have QW2 := Aside0.mk (Row.below QW2.out hb)
    have QW5 := Aside0.mk (Row.below QW5.out hb)
    have QG1 := Aside0.mk (Row.below QG1.out hb)
    have QG2 := Aside0.mk (Row.below QG2.out hb)
    have QG5 := Aside0.mk (Row.below QG5.out hb)
    have HB := Aside0.mk (below_step HB.out hb)
    clear hb
    have hnd : decide (n1 < 0) = false := decide_eq_false (by have := HN1.out; omega)
    go_wp2_with (fail)
    clear hnd
    have hc_ := laws_heldHoldS.calls k H5 h5_ G5 n1 n2 W43 (QG5.out.reads).2.2 (by rw [HG5.out]; exact (QG5.out.reads).2.1) HHH.out
    rw [HG5.out] at hc_
    refine hc_.mono ?_
    clear hc_
    rintro e wz_ ⟨rfl, ⟨nd, rfl⟩⟩
    have hb := pw_below_drewN (Below.refl W43.heap.size W43) nd
    generalize W43.drewN nd = W44 at hb ⊢
    have Z4402 := Aside0.mk (hb).size
    have P2 := Aside0.mk (blk_below P2.out hb)
    have P3 := Aside0.mk (blk_below P3.out hb)
    have P6 := Aside0.mk (blk_below P6.out hb)
    have P9 := Aside0.mk (blk_below P9.out hb)
    have P10 := Aside0.mk (blk_below P10.out hb)
    have QW1 := Aside0.mk (Row.below QW1.out hb)
    have QW2 := Aside0.mk (Row.below QW2.out hb)
    have QW5 := Aside0.mk (Row.below QW5.out hb)
    have QG1 := Aside0.mk (Row.below QG1.out hb)
    have QG2 := Aside0.mk (Row.below QG2.out hb)
    have QG5 := Aside0.mk (Row.below QG5.out hb)
    have HB := Aside0.mk (below_step HB.out hb)
    clear hb
    have hnd : decide (n2 < 0) = false := decide_eq_false (by have := HN2.out; omega)
    go_wp2_with (fail)
    clear hnd
    have ZK44 := Aside0.mk (show w.heap.size < b3 ∧ b3 < W3.heap.size ∧ W3.heap.size ≤ b6 ∧ b6 < W17.heap.size ∧ W17.heap.size ≤ W18.heap.size ∧ W18.heap.size ≤ W19.heap.size ∧ W19.heap.size ≤ b9 ∧ b9 < W22.heap.size ∧ W22.heap.size ≤ b10 ∧ b10 < W31.heap.size ∧ W31.heap.size ≤ W44.heap.size from ⟨by have := ZK42.out; have := Z4301.out; have := Z4402.out; omega, by have := ZK42.out; have := Z4301.out; have := Z4402.out; omega, by have := ZK42.out; have := Z4301.out; have := Z4402.out; omega, by have := ZK42.out; have := Z4301.out; have := Z4402.out; omega, by have := ZK42.out; have := Z4301.out; have := Z4402.out; omega, by have := ZK42.out; have := Z4301.out; have := Z4402.out; omega, by have := ZK42.out; have := Z4301.out; have := Z4402.out; omega, by have := ZK42.out; have := Z4301.out; have := Z4402.out; omega, by have := ZK42.out; have := Z4301.out; have := Z4402.out; omega, by have := ZK42.out; have := Z4301.out; have := Z4402.out; omega, by have := ZK42.out; have := Z4301.out; have := Z4402.out; omega⟩)
    clear ZK42 Z4301 Z4402
    have P2 := Aside0.mk (blk_drew P2.out)
    have P3 := Aside0.mk (blk_drew P3.out)
    have P6 := Aside0.mk (blk_drew P6.out)
    have P9 := Aside0.mk (blk_drew P9.out)
    have P10 := Aside0.mk (blk_drew P10.out)
    have QW1 := Aside0.mk (show Row _ _ _ _ _ _ from Kd.R_drew QW1.out)
    have QW2 := Aside0.mk (show Row _ _ _ _ _ _ from Kd.R_drew QW2.out)
    have QW5 := Aside0.mk (show Row _ _ _ _ _ _ from Kd.R_drew QW5.out)
    have QG1 := Aside0.mk (show Row _ _ _ _ _ _ from Kd.R_drew QG1.out)
    have QG2 := Aside0.mk (show Row _ _ _ _ _ _ from Kd.R_drew QG2.out)
    have QG5 := Aside0.mk (show Row _ _ _ _ _ _ from Kd.R_drew QG5.out)
    have HB := Aside0.mk (below_drew1 HB.out)
    have HSS := (show (W44.drew).heap[w.heap.size]? = some (.cells #[.int .i64 s, .slice A1 l1.length c1, .slice A2 l2.length c2] 24 (0, 0)) ∧ (W44.drew).heap[b3]? = some (.cells #[.int .i64 a, .int .i64 b, .bool c, .bool d] 42 (0, 0)) from ⟨P2.out, P3.out⟩)
    refine start_ (n := 13) (S := fun w' => w'.heap[w.heap.size]? = some (.cells #[.int .i64 s, .slice A1 l1.length c1, .slice A2 l2.length c2] 24 (0, 0)) ∧ w'.heap[b3]? = some (.cells #[.int .i64 a, .int .i64 b, .bool c, .bool d] 42 (0, 0))) (ds := []) (bt_ 13 0) (by kernel_rfl) rfl rfl HSS (fun hHeld => ?_)
    have Zc : Aside0 (W44.heap.size ≤ (W44.drew).heap.size) := ⟨Nat.le_refl _⟩
    clear HSS
    generalize W44.drew = W45 at P2 P3 P6 P9 P10 QW1 QW2 QW5 QG1 QG2 QG5 HB Zc hHeld ⊢
    refine ld_ 0 (some 105) (bt_ 13 1) w.heap.size 24 (.tmp 2) #[.int .i64 s, .slice A1 l1.length c1, .slice A2 l2.length c2] _ (by kernel_rfl) hHeld (fun _ h_ => h_.1) hu24 rfl (by kernel_rfl) ?_
    refine ld_ 2 (some 107) (bt_ 13 5) b3 42 (.tmp 3) #[.int .i64 a, .int .i64 b, .bool c, .bool d] _ (by kernel_rfl) hHeld (fun _ h_ => h_.2) hu42 rfl (by kernel_rfl) ?_
    clear hHeld
    refine join_ (σ := Value × Value × Value × Value × Value × Nat) 3 (bt_ 13 1023) (fun s_ => [(106, .agg #[.int .i64 s, s_.1, s_.2.1]), (108, .agg #[.int .i64 a, .int .i64 b, .bool c, .bool d]), (109, .tuple #[.agg #[.int .i64 r1, s_.2.2.1, s_.2.2.2.1], .bool r4, s_.2.2.2.2.1]), (16, .pointer (some ⟨s_.2.2.2.2.2, 0, none⟩)), (104, .tuple #[.agg #[.int .i64 r1, s_.2.2.1, s_.2.2.2.1], .bool r4, s_.2.2.2.2.1]), (110, .agg #[.int .i64 r1, s_.2.2.1, s_.2.2.2.1]), (111, .bool r4), (112, s_.2.2.2.2.1)]) (fun s_ wr => Below W45.heap.size W45 wr ∧ wr.heap[s_.2.2.2.2.2]? = some (.cells #[.int .i64 0, .slice none 0 0, .slice none 0 0] 29 (0, 0)) ∧ W45.heap.size ≤ s_.2.2.2.2.2 ∧ Row w.heap.size wr W45.heap.size wr.heap.size s_.2.2.1 r2 ∧ Row w.heap.size wr W45.heap.size wr.heap.size s_.2.2.2.1 r3 ∧ Row w.heap.size wr W45.heap.size wr.heap.size s_.2.2.2.2.1 r5 ∧ ((s_.2.2.1 : Value).ownBlock ≠ some s_.2.2.2.2.2 ∧ (s_.2.2.2.1 : Value).ownBlock ≠ some s_.2.2.2.2.2 ∧ (s_.2.2.2.2.1 : Value).ownBlock ≠ some s_.2.2.2.2.2) ∧ (∀ k, (s_.2.2.1 : Value).ownBlock = some k → (s_.2.2.2.1 : Value).ownBlock ≠ some k ∧ (s_.2.2.2.2.1 : Value).ownBlock ≠ some k) ∧ (∀ k, (s_.2.2.2.1 : Value).ownBlock = some k → (s_.2.2.2.2.1 : Value).ownBlock ≠ some k)) ?_ ?_
    rotate_left
    · intro hCont
      have HR0 := Aside0.mk (Below.refl W45.heap.size W45)
      have HW := HB
      refine two_ (i := 1) (j := 9) (Ni := some 106) (Nj := some 16) (bt_ 13 7) (bt_ 13 517) rfl rfl rfl rfl (by kernel_rfl) (by decide) (by decide) (fun K hK => ?_) (fun K hK => ?_)
      · refine goes_ Try.func17 (by kernel_rfl) rfl #[.agg #[.int .i64 s, .slice A1 l1.length c1, .slice A2 l2.length c2]] (by rfl) rfl rfl (by simp only [List.map_toArray, List.map_cons, List.map_nil]; rfl) ?_
        refine (laws_toLock.calls k s A1 c1 l1 A2 c2 l2 s L1 L2 W45 (Kd.C_below HR1.out HW.out) HC1.out (Kd.C_below HR2.out HW.out) HC2.out HTO.out).mono ?_
        rintro e W46 ⟨va, vb, rfl, qa, qb, hb⟩
        refine ⟨_, rfl, ?_⟩
        obtain ⟨TA, ta, e0⟩ := Kd.R_slice qa
        subst e0
        obtain ⟨TB, tb, e0⟩ := Kd.R_slice qb
        subst e0
        have QA := Aside0.mk (Row.of qa HW.out.size)
        have QB := Aside0.mk (Row.of qb HW.out.size)
        clear qa qb
        have z46 := Aside0.mk hb.size
        have HR0 := Aside0.mk (below_step HR0.out hb)
        have HW := Aside0.mk (below_step HW.out hb)
        clear hb
        refine hK.out _ _ ⟨blk_below P2.out HR0.out, blk_below P3.out HR0.out⟩ (fun hHeld => ?_)
        clear hK K hHeld
        refine norm_ (a' := ?_) ?_ ?_
        rotate_left
        · show Act.put _ (some 106) _ = _
          simp only [Act.put, List.setIfInBounds_toArray, List.set_cons_zero, List.set_cons_succ, i64_w, i32_w]
          rfl
        refine two_ (i := 3) (j := 9) (Ni := some 108) (Nj := some 16) (bt_ 13 15) (bt_ 13 519) rfl rfl rfl rfl (by kernel_rfl) (by decide) (by decide) (fun K hK => ?_) (fun K hK => ?_)
        · refine goes_ Try.func30 (by kernel_rfl) rfl #[.agg #[.int .i64 a, .int .i64 b, .bool c, .bool d]] (by rfl) rfl rfl (by simp only [List.map_toArray, List.map_cons, List.map_nil]; rfl) ?_
          refine (laws_toHold.calls a b c d a b c d W46 rfl).mono ?_
          rintro e W47 ⟨rfl, hb⟩
          refine ⟨_, rfl, ?_⟩
          have z47 := Aside0.mk hb.size
          have QA := Aside0.mk (Row.below QA.out hb)
          have QB := Aside0.mk (Row.below QB.out hb)
          have HR0 := Aside0.mk (below_step HR0.out hb)
          have HW := Aside0.mk (below_step HW.out hb)
          clear hb
          refine hK.out _ _ ⟨blk_below P2.out HR0.out, blk_below P3.out HR0.out⟩ (fun hHeld => ?_)
          clear hK K hHeld
          refine norm_ (a' := ?_) ?_ ?_
          rotate_left
          · show Act.put _ (some 108) _ = _
            simp only [Act.put, List.setIfInBounds_toArray, List.set_cons_zero, List.set_cons_succ, i64_w, i32_w]
            rfl
          refine two_ (i := 4) (j := 9) (Ni := some 109) (Nj := some 16) (bt_ 13 31) (bt_ 13 527) rfl rfl rfl rfl (by kernel_rfl) (by decide) (by decide) (fun K hK => ?_) (fun K hK => ?_)
          · refine goes_ Try.func31 (by kernel_rfl) rfl #[.agg #[.int .i64 s, .slice TA L1.length ta, .slice TB L2.length tb], .agg #[.int .i64 a, .int .i64 b, .bool c, .bool d]] (by rfl) rfl rfl (by simp only [List.map_toArray, List.map_cons, List.map_nil]; rfl) ?_
            refine (ask_calls s TA ta L1 TB tb L2 ⟨a, b, c, d⟩ r1 r2 r3 r4 r5 W47 (QA.out.reads).2.2 (QA.out.reads).2.1 (QB.out.reads).2.2 (QB.out.reads).2.1 HLL.out.1 HLL.out.2 HASK.out).mono ?_
            rintro e W48 ⟨v1, v2, v4, rfl, q1, q2, q4, hb⟩
            refine ⟨_, rfl, ?_⟩
            have SP1 := Aside0.mk (show ∀ k, v1.ownBlock = some k → v2.ownBlock ≠ some k ∧ v4.ownBlock ≠ some k from fun k hk => ⟨fun e => (q1.1 k hk).1 e.symm, fun e => (q1.1 k hk).2 e.symm⟩)
            have SP2 := Aside0.mk (show ∀ k, v2.ownBlock = some k → v4.ownBlock ≠ some k from fun k hk e => (q2.1 k hk).2 e.symm)
            have Q1 := Aside0.mk (Row.of q1 HW.out.size)
            have Q2 := Aside0.mk (Row.of q2 HW.out.size)
            have Q4 := Aside0.mk (Row.of q4 HW.out.size)
            clear q1 q2 q4
            have z48 := Aside0.mk hb.size
            have QA := Aside0.mk (Row.below QA.out hb)
            have QB := Aside0.mk (Row.below QB.out hb)
            have HR0 := Aside0.mk (below_step HR0.out hb)
            have HW := Aside0.mk (below_step HW.out hb)
            clear hb
            refine hK.out _ _ ⟨blk_below P2.out HR0.out, blk_below P3.out HR0.out⟩ (fun hHeld => ?_)
            clear hK K hHeld
            refine norm_ (a' := ?_) ?_ ?_
            rotate_left
            · show Act.put _ (some 109) _ = _
              simp only [Act.put, List.setIfInBounds_toArray, List.set_cons_zero, List.set_cons_succ, i64_w, i32_w]
              rfl
            refine pu_ 5 (some 104) (bt_ 13 63) (by kernel_rfl) ?_
            refine pu_ 6 (some 110) (bt_ 13 127) (by kernel_rfl) ?_
            refine pu_ 7 (some 111) (bt_ 13 255) (by kernel_rfl) ?_
            refine pu_ 8 (some 112) (bt_ 13 511) (by kernel_rfl) ?_
            refine one_ (i := 9) (N := some 16) (bt_ 13 1023) rfl rfl (by kernel_rfl) (by decide) (fun K hK => ?_)
            refine event_step (v := .pointer (some ⟨W48.heap.size, 0, none⟩)) (w1 := W48.alloc (.cells #[.int .i64 0, .slice none 0 0, .slice none 0 0] 29 (0, 0))) rfl (by first | (go_simp; done) | (go_simp; rfl)) ?_
            have PB := Aside0.mk (blk_new W48 (.cells #[.int .i64 0, .slice none 0 0, .slice none 0 0] 29 (0, 0)))
            have hb := below_alloc (Below.refl W48.heap.size W48) (.cells #[.int .i64 0, .slice none 0 0, .slice none 0 0] 29 (0, 0))
            have GD := Aside0.mk HR0.out.size
            have GH := Aside0.mk (blk_lt PB.out)
            have GZ := Aside0.mk (Nat.le_refl W48.heap.size)
            have Q1 := Aside0.mk (Row.below Q1.out hb)
            have Q2 := Aside0.mk (Row.below Q2.out hb)
            have Q4 := Aside0.mk (Row.below Q4.out hb)
            have HR0 := Aside0.mk (below_step HR0.out hb)
            have HW := Aside0.mk (below_step HW.out hb)
            clear hb
            have GE : Aside0 (W48.heap.size ≤ W48.heap.size) := ⟨Nat.le_refl _⟩
            generalize W48.alloc (.cells #[.int .i64 0, .slice none 0 0, .slice none 0 0] 29 (0, 0)) = W49 at PB GH Q1 Q2 Q4 HR0 HW ⊢
            obtain ⟨bn, hbn⟩ : ∃ bn, bn = W48.heap.size := ⟨_, rfl⟩
            have GD : Aside0 (W45.heap.size ≤ bn) := ⟨by rw [hbn]; exact GD.out⟩
            rw [← hbn] at PB GH ⊢
            have GB := Aside0.mk hbn
            clear hbn
            refine hK.out _ _ ⟨blk_below P2.out HR0.out, blk_below P3.out HR0.out⟩ (fun hHeld => ?_)
            clear hK K hHeld
            refine norm_ (a' := ?_) ?_ ?_
            rotate_left
            · show Act.put _ (some 16) _ = _
              simp only [Act.put, List.setIfInBounds_toArray, List.set_cons_zero, List.set_cons_succ, i64_w, i32_w]
              rfl
            have FF : Below W45.heap.size W45 W49 ∧ W49.heap[bn]? = some (.cells #[.int .i64 0, .slice none 0 0, .slice none 0 0] 29 (0, 0)) ∧ W45.heap.size ≤ bn ∧ Row w.heap.size W49 W45.heap.size W49.heap.size v1 r2 ∧ Row w.heap.size W49 W45.heap.size W49.heap.size v2 r3 ∧ Row w.heap.size W49 W45.heap.size W49.heap.size v4 r5 ∧ ((v1 : Value).ownBlock ≠ some bn ∧ (v2 : Value).ownBlock ≠ some bn ∧ (v4 : Value).ownBlock ≠ some bn) ∧ (∀ k, (v1 : Value).ownBlock = some k → (v2 : Value).ownBlock ≠ some k ∧ (v4 : Value).ownBlock ≠ some k) ∧ (∀ k, (v2 : Value).ownBlock = some k → (v4 : Value).ownBlock ≠ some k) := ⟨HR0.out, PB.out, GD.out, Row.wide Q1.out (by have := z46.out; have := z47.out; have := z48.out; have := GD.out; have := GH.out; have := GB.out; omega) (by have := z46.out; have := z47.out; have := z48.out; have := GD.out; have := GH.out; have := GB.out; omega), Row.wide Q2.out (by have := z46.out; have := z47.out; have := z48.out; have := GD.out; have := GH.out; have := GB.out; omega) (by have := z46.out; have := z47.out; have := z48.out; have := GD.out; have := GH.out; have := GB.out; omega), Row.wide Q4.out (by have := z46.out; have := z47.out; have := z48.out; have := GD.out; have := GH.out; have := GB.out; omega) (by have := z46.out; have := z47.out; have := z48.out; have := GD.out; have := GH.out; have := GB.out; omega), ⟨fun e => by have := Q1.out.at_ e; have := z46.out; have := z47.out; have := z48.out; have := GD.out; have := GH.out; have := GB.out; omega, fun e => by have := Q2.out.at_ e; have := z46.out; have := z47.out; have := z48.out; have := GD.out; have := GH.out; have := GB.out; omega, fun e => by have := Q4.out.at_ e; have := z46.out; have := z47.out; have := z48.out; have := GD.out; have := GH.out; have := GB.out; omega⟩, SP1.out, SP2.out⟩
            exact norm_ (by simp only [putAll, Act.put, List.setIfInBounds_toArray, List.set_cons_zero, List.set_cons_succ]) (hCont ((.slice TA L1.length ta), (.slice TB L2.length tb), v1, v2, v4, bn) _ FF)
          · refine event_step (v := .pointer (some ⟨W47.heap.size, 0, none⟩)) (w1 := W47.alloc (.cells #[.int .i64 0, .slice none 0 0, .slice none 0 0] 29 (0, 0))) rfl (by first | (go_simp; done) | (go_simp; rfl)) ?_
            have PB := Aside0.mk (blk_new W47 (.cells #[.int .i64 0, .slice none 0 0, .slice none 0 0] 29 (0, 0)))
            have hb := below_alloc (Below.refl W47.heap.size W47) (.cells #[.int .i64 0, .slice none 0 0, .slice none 0 0] 29 (0, 0))
            have GD := Aside0.mk HR0.out.size
            have GH := Aside0.mk (blk_lt PB.out)
            have GZ := Aside0.mk (Nat.le_refl W47.heap.size)
            have QA := Aside0.mk (Row.below QA.out hb)
            have QB := Aside0.mk (Row.below QB.out hb)
            have HR0 := Aside0.mk (below_step HR0.out hb)
            have HW := Aside0.mk (below_step HW.out hb)
            clear hb
            have GE : Aside0 (W47.heap.size ≤ W47.heap.size) := ⟨Nat.le_refl _⟩
            generalize W47.alloc (.cells #[.int .i64 0, .slice none 0 0, .slice none 0 0] 29 (0, 0)) = W50 at PB GH QA QB HR0 HW ⊢
            obtain ⟨bn, hbn⟩ : ∃ bn, bn = W47.heap.size := ⟨_, rfl⟩
            have GD : Aside0 (W45.heap.size ≤ bn) := ⟨by rw [hbn]; exact GD.out⟩
            rw [← hbn] at PB GH ⊢
            have GB := Aside0.mk hbn
            clear hbn
            refine hK.out _ _ ⟨blk_below P2.out HR0.out, blk_below P3.out HR0.out⟩ (fun hHeld => ?_)
            clear hK K hHeld
            refine norm_ (a' := ?_) ?_ ?_
            rotate_left
            · show Act.put _ (some 16) _ = _
              simp only [Act.put, List.setIfInBounds_toArray, List.set_cons_zero, List.set_cons_succ, i64_w, i32_w]
              rfl
            refine one_ (i := 4) (N := some 109) (bt_ 13 543) rfl rfl (by kernel_rfl) (by decide) (fun K hK => ?_)
            refine goes_ Try.func31 (by kernel_rfl) rfl #[.agg #[.int .i64 s, .slice TA L1.length ta, .slice TB L2.length tb], .agg #[.int .i64 a, .int .i64 b, .bool c, .bool d]] (by rfl) rfl rfl (by simp only [List.map_toArray, List.map_cons, List.map_nil]; rfl) ?_
            refine (ask_calls s TA ta L1 TB tb L2 ⟨a, b, c, d⟩ r1 r2 r3 r4 r5 W50 (QA.out.reads).2.2 (QA.out.reads).2.1 (QB.out.reads).2.2 (QB.out.reads).2.1 HLL.out.1 HLL.out.2 HASK.out).mono ?_
            rintro e W51 ⟨v1, v2, v4, rfl, q1, q2, q4, hb⟩
            refine ⟨_, rfl, ?_⟩
            have SP1 := Aside0.mk (show ∀ k, v1.ownBlock = some k → v2.ownBlock ≠ some k ∧ v4.ownBlock ≠ some k from fun k hk => ⟨fun e => (q1.1 k hk).1 e.symm, fun e => (q1.1 k hk).2 e.symm⟩)
            have SP2 := Aside0.mk (show ∀ k, v2.ownBlock = some k → v4.ownBlock ≠ some k from fun k hk e => (q2.1 k hk).2 e.symm)
            have Q1 := Aside0.mk (Row.of q1 HW.out.size)
            have Q2 := Aside0.mk (Row.of q2 HW.out.size)
            have Q4 := Aside0.mk (Row.of q4 HW.out.size)
            clear q1 q2 q4
            have z51 := Aside0.mk hb.size
            have QA := Aside0.mk (Row.below QA.out hb)
            have QB := Aside0.mk (Row.below QB.out hb)
            have PB := Aside0.mk (blk_below PB.out hb)
            have HR0 := Aside0.mk (below_step HR0.out hb)
            have HW := Aside0.mk (below_step HW.out hb)
            clear hb
            refine hK.out _ _ ⟨blk_below P2.out HR0.out, blk_below P3.out HR0.out⟩ (fun hHeld => ?_)
            clear hK K hHeld
            refine norm_ (a' := ?_) ?_ ?_
            rotate_left
            · show Act.put _ (some 109) _ = _
              simp only [Act.put, List.setIfInBounds_toArray, List.set_cons_zero, List.set_cons_succ, i64_w, i32_w]
              rfl
            refine pu_ 5 (some 104) (bt_ 13 575) (by kernel_rfl) ?_
            refine pu_ 6 (some 110) (bt_ 13 639) (by kernel_rfl) ?_
            refine pu_ 7 (some 111) (bt_ 13 767) (by kernel_rfl) ?_
            refine pu_ 8 (some 112) (bt_ 13 1023) (by kernel_rfl) ?_
            have FF : Below W45.heap.size W45 W51 ∧ W51.heap[bn]? = some (.cells #[.int .i64 0, .slice none 0 0, .slice none 0 0] 29 (0, 0)) ∧ W45.heap.size ≤ bn ∧ Row w.heap.size W51 W45.heap.size W51.heap.size v1 r2 ∧ Row w.heap.size W51 W45.heap.size W51.heap.size v2 r3 ∧ Row w.heap.size W51 W45.heap.size W51.heap.size v4 r5 ∧ ((v1 : Value).ownBlock ≠ some bn ∧ (v2 : Value).ownBlock ≠ some bn ∧ (v4 : Value).ownBlock ≠ some bn) ∧ (∀ k, (v1 : Value).ownBlock = some k → (v2 : Value).ownBlock ≠ some k ∧ (v4 : Value).ownBlock ≠ some k) ∧ (∀ k, (v2 : Value).ownBlock = some k → (v4 : Value).ownBlock ≠ some k) := ⟨HR0.out, PB.out, GD.out, Row.wide Q1.out (by have := z46.out; have := z47.out; have := GD.out; have := GH.out; have := GB.out; have := z51.out; omega) (by have := z46.out; have := z47.out; have := GD.out; have := GH.out; have := GB.out; have := z51.out; omega), Row.wide Q2.out (by have := z46.out; have := z47.out; have := GD.out; have := GH.out; have := GB.out; have := z51.out; omega) (by have := z46.out; have := z47.out; have := GD.out; have := GH.out; have := GB.out; have := z51.out; omega), Row.wide Q4.out (by have := z46.out; have := z47.out; have := GD.out; have := GH.out; have := GB.out; have := z51.out; omega) (by have := z46.out; have := z47.out; have := GD.out; have := GH.out; have := GB.out; have := z51.out; omega), ⟨fun e => by have := Q1.out.at_ e; have := z46.out; have := z47.out; have := GD.out; have := GH.out; have := GB.out; have := z51.out; omega, fun e => by have := Q2.out.at_ e; have := z46.out; have := z47.out; have := GD.out; have := GH.out; have := GB.out; have := z51.out; omega, fun e => by have := Q4.out.at_ e; have := z46.out; have := z47.out; have := GD.out; have := GH.out; have := GB.out; have := z51.out; omega⟩, SP1.out, SP2.out⟩
            exact norm_ (by simp only [putAll, Act.put, List.setIfInBounds_toArray, List.set_cons_zero, List.set_cons_succ]) (hCont ((.slice TA L1.length ta), (.slice TB L2.length tb), v1, v2, v4, bn) _ FF)
        · refine event_step (v := .pointer (some ⟨W46.heap.size, 0, none⟩)) (w1 := W46.alloc (.cells #[.int .i64 0, .slice none 0 0, .slice none 0 0] 29 (0, 0))) rfl (by first | (go_simp; done) | (go_simp; rfl)) ?_
          have PB := Aside0.mk (blk_new W46 (.cells #[.int .i64 0, .slice none 0 0, .slice none 0 0] 29 (0, 0)))
          have hb := below_alloc (Below.refl W46.heap.size W46) (.cells #[.int .i64 0, .slice none 0 0, .slice none 0 0] 29 (0, 0))
          have GD := Aside0.mk HR0.out.size
          have GH := Aside0.mk (blk_lt PB.out)
          have GZ := Aside0.mk (Nat.le_refl W46.heap.size)
          have QA := Aside0.mk (Row.below QA.out hb)
          have QB := Aside0.mk (Row.below QB.out hb)
          have HR0 := Aside0.mk (below_step HR0.out hb)
          have HW := Aside0.mk (below_step HW.out hb)
          clear hb
          have GE : Aside0 (W46.heap.size ≤ W46.heap.size) := ⟨Nat.le_refl _⟩
          generalize W46.alloc (.cells #[.int .i64 0, .slice none 0 0, .slice none 0 0] 29 (0, 0)) = W52 at PB GH QA QB HR0 HW ⊢
          obtain ⟨bn, hbn⟩ : ∃ bn, bn = W46.heap.size := ⟨_, rfl⟩
          have GD : Aside0 (W45.heap.size ≤ bn) := ⟨by rw [hbn]; exact GD.out⟩
          rw [← hbn] at PB GH ⊢
          have GB := Aside0.mk hbn
          clear hbn
          refine hK.out _ _ ⟨blk_below P2.out HR0.out, blk_below P3.out HR0.out⟩ (fun hHeld => ?_)
          clear hK K hHeld
          refine norm_ (a' := ?_) ?_ ?_
          rotate_left
          · show Act.put _ (some 16) _ = _
            simp only [Act.put, List.setIfInBounds_toArray, List.set_cons_zero, List.set_cons_succ, i64_w, i32_w]
            rfl
          refine one_ (i := 3) (N := some 108) (bt_ 13 527) rfl rfl (by kernel_rfl) (by decide) (fun K hK => ?_)
          refine goes_ Try.func30 (by kernel_rfl) rfl #[.agg #[.int .i64 a, .int .i64 b, .bool c, .bool d]] (by rfl) rfl rfl (by simp only [List.map_toArray, List.map_cons, List.map_nil]; rfl) ?_
          refine (laws_toHold.calls a b c d a b c d W52 rfl).mono ?_
          rintro e W53 ⟨rfl, hb⟩
          refine ⟨_, rfl, ?_⟩
          have z53 := Aside0.mk hb.size
          have QA := Aside0.mk (Row.below QA.out hb)
          have QB := Aside0.mk (Row.below QB.out hb)
          have PB := Aside0.mk (blk_below PB.out hb)
          have HR0 := Aside0.mk (below_step HR0.out hb)
          have HW := Aside0.mk (below_step HW.out hb)
          clear hb
          refine hK.out _ _ ⟨blk_below P2.out HR0.out, blk_below P3.out HR0.out⟩ (fun hHeld => ?_)
          clear hK K hHeld
          refine norm_ (a' := ?_) ?_ ?_
          rotate_left
          · show Act.put _ (some 108) _ = _
            simp only [Act.put, List.setIfInBounds_toArray, List.set_cons_zero, List.set_cons_succ, i64_w, i32_w]
            rfl
          refine one_ (i := 4) (N := some 109) (bt_ 13 543) rfl rfl (by kernel_rfl) (by decide) (fun K hK => ?_)
          refine goes_ Try.func31 (by kernel_rfl) rfl #[.agg #[.int .i64 s, .slice TA L1.length ta, .slice TB L2.length tb], .agg #[.int .i64 a, .int .i64 b, .bool c, .bool d]] (by rfl) rfl rfl (by simp only [List.map_toArray, List.map_cons, List.map_nil]; rfl) ?_
          refine (ask_calls s TA ta L1 TB tb L2 ⟨a, b, c, d⟩ r1 r2 r3 r4 r5 W53 (QA.out.reads).2.2 (QA.out.reads).2.1 (QB.out.reads).2.2 (QB.out.reads).2.1 HLL.out.1 HLL.out.2 HASK.out).mono ?_
          rintro e W54 ⟨v1, v2, v4, rfl, q1, q2, q4, hb⟩
          refine ⟨_, rfl, ?_⟩
          have SP1 := Aside0.mk (show ∀ k, v1.ownBlock = some k → v2.ownBlock ≠ some k ∧ v4.ownBlock ≠ some k from fun k hk => ⟨fun e => (q1.1 k hk).1 e.symm, fun e => (q1.1 k hk).2 e.symm⟩)
          have SP2 := Aside0.mk (show ∀ k, v2.ownBlock = some k → v4.ownBlock ≠ some k from fun k hk e => (q2.1 k hk).2 e.symm)
          have Q1 := Aside0.mk (Row.of q1 HW.out.size)
          have Q2 := Aside0.mk (Row.of q2 HW.out.size)
          have Q4 := Aside0.mk (Row.of q4 HW.out.size)
          clear q1 q2 q4
          have z54 := Aside0.mk hb.size
          have QA := Aside0.mk (Row.below QA.out hb)
          have QB := Aside0.mk (Row.below QB.out hb)
          have PB := Aside0.mk (blk_below PB.out hb)
          have HR0 := Aside0.mk (below_step HR0.out hb)
          have HW := Aside0.mk (below_step HW.out hb)
          clear hb
          refine hK.out _ _ ⟨blk_below P2.out HR0.out, blk_below P3.out HR0.out⟩ (fun hHeld => ?_)
          clear hK K hHeld
          refine norm_ (a' := ?_) ?_ ?_
          rotate_left
          · show Act.put _ (some 109) _ = _
            simp only [Act.put, List.setIfInBounds_toArray, List.set_cons_zero, List.set_cons_succ, i64_w, i32_w]
            rfl
          refine pu_ 5 (some 104) (bt_ 13 575) (by kernel_rfl) ?_
          refine pu_ 6 (some 110) (bt_ 13 639) (by kernel_rfl) ?_
          refine pu_ 7 (some 111) (bt_ 13 767) (by kernel_rfl) ?_
          refine pu_ 8 (some 112) (bt_ 13 1023) (by kernel_rfl) ?_
          have FF : Below W45.heap.size W45 W54 ∧ W54.heap[bn]? = some (.cells #[.int .i64 0, .slice none 0 0, .slice none 0 0] 29 (0, 0)) ∧ W45.heap.size ≤ bn ∧ Row w.heap.size W54 W45.heap.size W54.heap.size v1 r2 ∧ Row w.heap.size W54 W45.heap.size W54.heap.size v2 r3 ∧ Row w.heap.size W54 W45.heap.size W54.heap.size v4 r5 ∧ ((v1 : Value).ownBlock ≠ some bn ∧ (v2 : Value).ownBlock ≠ some bn ∧ (v4 : Value).ownBlock ≠ some bn) ∧ (∀ k, (v1 : Value).ownBlock = some k → (v2 : Value).ownBlock ≠ some k ∧ (v4 : Value).ownBlock ≠ some k) ∧ (∀ k, (v2 : Value).ownBlock = some k → (v4 : Value).ownBlock ≠ some k) := ⟨HR0.out, PB.out, GD.out, Row.wide Q1.out (by have := z46.out; have := GD.out; have := GH.out; have := GB.out; have := z53.out; have := z54.out; omega) (by have := z46.out; have := GD.out; have := GH.out; have := GB.out; have := z53.out; have := z54.out; omega), Row.wide Q2.out (by have := z46.out; have := GD.out; have := GH.out; have := GB.out; have := z53.out; have := z54.out; omega) (by have := z46.out; have := GD.out; have := GH.out; have := GB.out; have := z53.out; have := z54.out; omega), Row.wide Q4.out (by have := z46.out; have := GD.out; have := GH.out; have := GB.out; have := z53.out; have := z54.out; omega) (by have := z46.out; have := GD.out; have := GH.out; have := GB.out; have := z53.out; have := z54.out; omega), ⟨fun e => by have := Q1.out.at_ e; have := z46.out; have := GD.out; have := GH.out; have := GB.out; have := z53.out; have := z54.out; omega, fun e => by have := Q2.out.at_ e; have := z46.out; have := GD.out; have := GH.out; have := GB.out; have := z53.out; have := z54.out; omega, fun e => by have := Q4.out.at_ e; have := z46.out; have := GD.out; have := GH.out; have := GB.out; have := z53.out; have := z54.out; omega⟩, SP1.out, SP2.out⟩
          exact norm_ (by simp only [putAll, Act.put, List.setIfInBounds_toArray, List.set_cons_zero, List.set_cons_succ]) (hCont ((.slice TA L1.length ta), (.slice TB L2.length tb), v1, v2, v4, bn) _ FF)
      · refine event_step (v := .pointer (some ⟨W45.heap.size, 0, none⟩)) (w1 := W45.alloc (.cells #[.int .i64 0, .slice none 0 0, .slice none 0 0] 29 (0, 0))) rfl (by first | (go_simp; done) | (go_simp; rfl)) ?_
        have PB := Aside0.mk (blk_new W45 (.cells #[.int .i64 0, .slice none 0 0, .slice none 0 0] 29 (0, 0)))
        have hb := below_alloc (Below.refl W45.heap.size W45) (.cells #[.int .i64 0, .slice none 0 0, .slice none 0 0] 29 (0, 0))
        have GD := Aside0.mk HR0.out.size
        have GH := Aside0.mk (blk_lt PB.out)
        have GZ := Aside0.mk (Nat.le_refl W45.heap.size)
        have HR0 := Aside0.mk (below_step HR0.out hb)
        have HW := Aside0.mk (below_step HW.out hb)
        clear hb
        have GE : Aside0 (W45.heap.size ≤ W45.heap.size) := ⟨Nat.le_refl _⟩
        generalize W45.alloc (.cells #[.int .i64 0, .slice none 0 0, .slice none 0 0] 29 (0, 0)) = W55 at PB GH  HR0 HW ⊢
        obtain ⟨bn, hbn⟩ : ∃ bn, bn = W45.heap.size := ⟨_, rfl⟩
        have GD : Aside0 (W45.heap.size ≤ bn) := ⟨by rw [hbn]; exact GD.out⟩
        rw [← hbn] at PB GH ⊢
        have GB := Aside0.mk hbn
        clear hbn
        refine hK.out _ _ ⟨blk_below P2.out HR0.out, blk_below P3.out HR0.out⟩ (fun hHeld => ?_)
        clear hK K hHeld
        refine norm_ (a' := ?_) ?_ ?_
        rotate_left
        · show Act.put _ (some 16) _ = _
          simp only [Act.put, List.setIfInBounds_toArray, List.set_cons_zero, List.set_cons_succ, i64_w, i32_w]
          rfl
        refine one_ (i := 1) (N := some 106) (bt_ 13 519) rfl rfl (by kernel_rfl) (by decide) (fun K hK => ?_)
        refine goes_ Try.func17 (by kernel_rfl) rfl #[.agg #[.int .i64 s, .slice A1 l1.length c1, .slice A2 l2.length c2]] (by rfl) rfl rfl (by simp only [List.map_toArray, List.map_cons, List.map_nil]; rfl) ?_
        refine (laws_toLock.calls k s A1 c1 l1 A2 c2 l2 s L1 L2 W55 (Kd.C_below HR1.out HW.out) HC1.out (Kd.C_below HR2.out HW.out) HC2.out HTO.out).mono ?_
        rintro e W56 ⟨va, vb, rfl, qa, qb, hb⟩
        refine ⟨_, rfl, ?_⟩
        obtain ⟨TA, ta, e0⟩ := Kd.R_slice qa
        subst e0
        obtain ⟨TB, tb, e0⟩ := Kd.R_slice qb
        subst e0
        have QA := Aside0.mk (Row.of qa HW.out.size)
        have QB := Aside0.mk (Row.of qb HW.out.size)
        clear qa qb
        have z56 := Aside0.mk hb.size
        have PB := Aside0.mk (blk_below PB.out hb)
        have HR0 := Aside0.mk (below_step HR0.out hb)
        have HW := Aside0.mk (below_step HW.out hb)
        clear hb
        refine hK.out _ _ ⟨blk_below P2.out HR0.out, blk_below P3.out HR0.out⟩ (fun hHeld => ?_)
        clear hK K hHeld
        refine norm_ (a' := ?_) ?_ ?_
        rotate_left
        · show Act.put _ (some 106) _ = _
          simp only [Act.put, List.setIfInBounds_toArray, List.set_cons_zero, List.set_cons_succ, i64_w, i32_w]
          rfl
        refine one_ (i := 3) (N := some 108) (bt_ 13 527) rfl rfl (by kernel_rfl) (by decide) (fun K hK => ?_)
        refine goes_ Try.func30 (by kernel_rfl) rfl #[.agg #[.int .i64 a, .int .i64 b, .bool c, .bool d]] (by rfl) rfl rfl (by simp only [List.map_toArray, List.map_cons, List.map_nil]; rfl) ?_
        refine (laws_toHold.calls a b c d a b c d W56 rfl).mono ?_
        rintro e W57 ⟨rfl, hb⟩
        refine ⟨_, rfl, ?_⟩
        have z57 := Aside0.mk hb.size
        have QA := Aside0.mk (Row.below QA.out hb)
        have QB := Aside0.mk (Row.below QB.out hb)
        have PB := Aside0.mk (blk_below PB.out hb)
        have HR0 := Aside0.mk (below_step HR0.out hb)
        have HW := Aside0.mk (below_step HW.out hb)
        clear hb
        refine hK.out _ _ ⟨blk_below P2.out HR0.out, blk_below P3.out HR0.out⟩ (fun hHeld => ?_)
        clear hK K hHeld
        refine norm_ (a' := ?_) ?_ ?_
        rotate_left
        · show Act.put _ (some 108) _ = _
          simp only [Act.put, List.setIfInBounds_toArray, List.set_cons_zero, List.set_cons_succ, i64_w, i32_w]
          rfl
        refine one_ (i := 4) (N := some 109) (bt_ 13 543) rfl rfl (by kernel_rfl) (by decide) (fun K hK => ?_)
        refine goes_ Try.func31 (by kernel_rfl) rfl #[.agg #[.int .i64 s, .slice TA L1.length ta, .slice TB L2.length tb], .agg #[.int .i64 a, .int .i64 b, .bool c, .bool d]] (by rfl) rfl rfl (by simp only [List.map_toArray, List.map_cons, List.map_nil]; rfl) ?_
        refine (ask_calls s TA ta L1 TB tb L2 ⟨a, b, c, d⟩ r1 r2 r3 r4 r5 W57 (QA.out.reads).2.2 (QA.out.reads).2.1 (QB.out.reads).2.2 (QB.out.reads).2.1 HLL.out.1 HLL.out.2 HASK.out).mono ?_
        rintro e W58 ⟨v1, v2, v4, rfl, q1, q2, q4, hb⟩
        refine ⟨_, rfl, ?_⟩
        have SP1 := Aside0.mk (show ∀ k, v1.ownBlock = some k → v2.ownBlock ≠ some k ∧ v4.ownBlock ≠ some k from fun k hk => ⟨fun e => (q1.1 k hk).1 e.symm, fun e => (q1.1 k hk).2 e.symm⟩)
        have SP2 := Aside0.mk (show ∀ k, v2.ownBlock = some k → v4.ownBlock ≠ some k from fun k hk e => (q2.1 k hk).2 e.symm)
        have Q1 := Aside0.mk (Row.of q1 HW.out.size)
        have Q2 := Aside0.mk (Row.of q2 HW.out.size)
        have Q4 := Aside0.mk (Row.of q4 HW.out.size)
        clear q1 q2 q4
        have z58 := Aside0.mk hb.size
        have QA := Aside0.mk (Row.below QA.out hb)
        have QB := Aside0.mk (Row.below QB.out hb)
        have PB := Aside0.mk (blk_below PB.out hb)
        have HR0 := Aside0.mk (below_step HR0.out hb)
        have HW := Aside0.mk (below_step HW.out hb)
        clear hb
        refine hK.out _ _ ⟨blk_below P2.out HR0.out, blk_below P3.out HR0.out⟩ (fun hHeld => ?_)
        clear hK K hHeld
        refine norm_ (a' := ?_) ?_ ?_
        rotate_left
        · show Act.put _ (some 109) _ = _
          simp only [Act.put, List.setIfInBounds_toArray, List.set_cons_zero, List.set_cons_succ, i64_w, i32_w]
          rfl
        refine pu_ 5 (some 104) (bt_ 13 575) (by kernel_rfl) ?_
        refine pu_ 6 (some 110) (bt_ 13 639) (by kernel_rfl) ?_
        refine pu_ 7 (some 111) (bt_ 13 767) (by kernel_rfl) ?_
        refine pu_ 8 (some 112) (bt_ 13 1023) (by kernel_rfl) ?_
        have FF : Below W45.heap.size W45 W58 ∧ W58.heap[bn]? = some (.cells #[.int .i64 0, .slice none 0 0, .slice none 0 0] 29 (0, 0)) ∧ W45.heap.size ≤ bn ∧ Row w.heap.size W58 W45.heap.size W58.heap.size v1 r2 ∧ Row w.heap.size W58 W45.heap.size W58.heap.size v2 r3 ∧ Row w.heap.size W58 W45.heap.size W58.heap.size v4 r5 ∧ ((v1 : Value).ownBlock ≠ some bn ∧ (v2 : Value).ownBlock ≠ some bn ∧ (v4 : Value).ownBlock ≠ some bn) ∧ (∀ k, (v1 : Value).ownBlock = some k → (v2 : Value).ownBlock ≠ some k ∧ (v4 : Value).ownBlock ≠ some k) ∧ (∀ k, (v2 : Value).ownBlock = some k → (v4 : Value).ownBlock ≠ some k) := ⟨HR0.out, PB.out, GD.out, Row.wide Q1.out (by have := GD.out; have := GH.out; have := GB.out; have := z56.out; have := z57.out; have := z58.out; omega) (by have := GD.out; have := GH.out; have := GB.out; have := z56.out; have := z57.out; have := z58.out; omega), Row.wide Q2.out (by have := GD.out; have := GH.out; have := GB.out; have := z56.out; have := z57.out; have := z58.out; omega) (by have := GD.out; have := GH.out; have := GB.out; have := z56.out; have := z57.out; have := z58.out; omega), Row.wide Q4.out (by have := GD.out; have := GH.out; have := GB.out; have := z56.out; have := z57.out; have := z58.out; omega) (by have := GD.out; have := GH.out; have := GB.out; have := z56.out; have := z57.out; have := z58.out; omega), ⟨fun e => by have := Q1.out.at_ e; have := GD.out; have := GH.out; have := GB.out; have := z56.out; have := z57.out; have := z58.out; omega, fun e => by have := Q2.out.at_ e; have := GD.out; have := GH.out; have := GB.out; have := z56.out; have := z57.out; have := z58.out; omega, fun e => by have := Q4.out.at_ e; have := GD.out; have := GH.out; have := GB.out; have := z56.out; have := z57.out; have := z58.out; omega⟩, SP1.out, SP2.out⟩
        exact norm_ (by simp only [putAll, Act.put, List.setIfInBounds_toArray, List.set_cons_zero, List.set_cons_succ]) (hCont ((.slice TA L1.length ta), (.slice TB L2.length tb), v1, v2, v4, bn) _ FF)
    rintro ⟨va, vb, v1, v2, v4, b16⟩ W59 ⟨hb, pb, gb, f1, f2, f4, nb, sp1, sp2⟩
    have ZLc : Aside0 (W45.heap.size ≤ b16) := ⟨gb⟩
    have ZHc : Aside0 (b16 < W59.heap.size) := ⟨blk_lt pb⟩
    have Z6004 := Aside0.mk (hb).size
    have P2 := Aside0.mk (blk_below P2.out hb)
    have P3 := Aside0.mk (blk_below P3.out hb)
    have P6 := Aside0.mk (blk_below P6.out hb)
    have P9 := Aside0.mk (blk_below P9.out hb)
    have P10 := Aside0.mk (blk_below P10.out hb)
    have QW1 := Aside0.mk (Row.below QW1.out hb)
    have QW2 := Aside0.mk (Row.below QW2.out hb)
    have QW5 := Aside0.mk (Row.below QW5.out hb)
    have QG1 := Aside0.mk (Row.below QG1.out hb)
    have QG2 := Aside0.mk (Row.below QG2.out hb)
    have QG5 := Aside0.mk (Row.below QG5.out hb)
    have HB := Aside0.mk (below_step HB.out hb)
    clear hb
    have P16 : Aside0 (W59.heap[b16]? = some (.cells #[.int .i64 0, .slice none 0 0, .slice none 0 0] 29 (0, 0))) := ⟨pb⟩
    have QM1 : Aside0 (Row w.heap.size W59 W45.heap.size W59.heap.size v1 r2) := ⟨f1⟩
    have QM2 : Aside0 (Row w.heap.size W59 W45.heap.size W59.heap.size v2 r3) := ⟨f2⟩
    have QM5 : Aside0 (Row w.heap.size W59 W45.heap.size W59.heap.size v4 r5) := ⟨f4⟩
    have NBc : Aside0 (((v1 : Value).ownBlock ≠ some b16 ∧ (v2 : Value).ownBlock ≠ some b16 ∧ (v4 : Value).ownBlock ≠ some b16)) := ⟨nb⟩
    have SAc : Aside0 ((∀ k, (v1 : Value).ownBlock = some k → (v2 : Value).ownBlock ≠ some k ∧ (v4 : Value).ownBlock ≠ some k)) := ⟨sp1⟩
    have SBc : Aside0 ((∀ k, (v2 : Value).ownBlock = some k → (v4 : Value).ownBlock ≠ some k)) := ⟨sp2⟩
    clear pb gb f1 f2 f4 nb sp1 sp2
    obtain ⟨M1, m1_, e0⟩ := Row.slice QM1.out
    subst e0
    obtain ⟨M2, m2_, e0⟩ := Row.slice QM2.out
    subst e0
    obtain ⟨M5, m5_, e0⟩ := Row.slice QM5.out
    subst e0
    refine norm_ (a' := ?_) ?_ ?_
    rotate_left
    · simp only [putAll, Act.put, List.setIfInBounds_toArray, List.set_cons_zero, List.set_cons_succ]
      rfl
    refine one_ (i := 10) (N := none) (bt_ 13 2047) rfl rfl (by kernel_rfl) (by decide) (fun K hK => ?_)
    refine st_ rfl 29 (.tmp 16) (.tmp 110) rfl b16 #[.int .i64 r1, .slice M1 r2.length m1_, .slice M2 r3.length m2_] rfl rfl 29 #[.int .i64 0, .slice none 0 0, .slice none 0 0] P16.out (by kernel_rfl) rfl (by simp [Value.oneCell']) ?_
    have P2 := Aside0.mk ((setRow_other W59 b16 w.heap.size #[.int .i64 r1, .slice M1 r2.length m1_, .slice M2 r3.length m2_] (by have := ZK44.out; have := Zc.out; have := ZLc.out; have := ZHc.out; have := Z6004.out; omega)).trans P2.out)
    have P3 := Aside0.mk ((setRow_other W59 b16 b3 #[.int .i64 r1, .slice M1 r2.length m1_, .slice M2 r3.length m2_] (by have := ZK44.out; have := Zc.out; have := ZLc.out; have := ZHc.out; have := Z6004.out; omega)).trans P3.out)
    have P6 := Aside0.mk ((setRow_other W59 b16 b6 #[.int .i64 r1, .slice M1 r2.length m1_, .slice M2 r3.length m2_] (by have := ZK44.out; have := Zc.out; have := ZLc.out; have := ZHc.out; have := Z6004.out; omega)).trans P6.out)
    have P9 := Aside0.mk ((setRow_other W59 b16 b9 #[.int .i64 r1, .slice M1 r2.length m1_, .slice M2 r3.length m2_] (by have := ZK44.out; have := Zc.out; have := ZLc.out; have := ZHc.out; have := Z6004.out; omega)).trans P9.out)
    have P10 := Aside0.mk ((setRow_other W59 b16 b10 #[.int .i64 r1, .slice M1 r2.length m1_, .slice M2 r3.length m2_] (by have := ZK44.out; have := Zc.out; have := ZLc.out; have := ZHc.out; have := Z6004.out; omega)).trans P10.out)
    have QW1 := Aside0.mk (Row.row QW1.out #[.int .i64 r1, .slice M1 r2.length m1_, .slice M2 r3.length m2_] (b := b16) (by right; have := ZK44.out; have := Zc.out; have := ZLc.out; have := ZHc.out; have := Z6004.out; omega))
    have QW2 := Aside0.mk (Row.row QW2.out #[.int .i64 r1, .slice M1 r2.length m1_, .slice M2 r3.length m2_] (b := b16) (by right; have := ZK44.out; have := Zc.out; have := ZLc.out; have := ZHc.out; have := Z6004.out; omega))
    have QW5 := Aside0.mk (Row.row QW5.out #[.int .i64 r1, .slice M1 r2.length m1_, .slice M2 r3.length m2_] (b := b16) (by right; have := ZK44.out; have := Zc.out; have := ZLc.out; have := ZHc.out; have := Z6004.out; omega))
    have QG1 := Aside0.mk (Row.row QG1.out #[.int .i64 r1, .slice M1 r2.length m1_, .slice M2 r3.length m2_] (b := b16) (by right; have := ZK44.out; have := Zc.out; have := ZLc.out; have := ZHc.out; have := Z6004.out; omega))
    have QG2 := Aside0.mk (Row.row QG2.out #[.int .i64 r1, .slice M1 r2.length m1_, .slice M2 r3.length m2_] (b := b16) (by right; have := ZK44.out; have := Zc.out; have := ZLc.out; have := ZHc.out; have := Z6004.out; omega))
    have QG5 := Aside0.mk (Row.row QG5.out #[.int .i64 r1, .slice M1 r2.length m1_, .slice M2 r3.length m2_] (b := b16) (by right; have := ZK44.out; have := Zc.out; have := ZLc.out; have := ZHc.out; have := Z6004.out; omega))
    have QM1 := Aside0.mk (Row.sep QM1.out #[.int .i64 r1, .slice M1 r2.length m1_, .slice M2 r3.length m2_] (b := b16) NBc.out.1)
    have QM2 := Aside0.mk (Row.sep QM2.out #[.int .i64 r1, .slice M1 r2.length m1_, .slice M2 r3.length m2_] (b := b16) NBc.out.2.1)
    have QM5 := Aside0.mk (Row.sep QM5.out #[.int .i64 r1, .slice M1 r2.length m1_, .slice M2 r3.length m2_] (b := b16) NBc.out.2.2)
    have P16 := Aside0.mk (setRow_heap W59 b16 _ #[.int .i64 r1, .slice M1 r2.length m1_, .slice M2 r3.length m2_] 29 (0, 0) P16.out)
    have HB := Aside0.mk (below_setRow HB.out (show w.heap.size ≤ b16 by have := ZK44.out; have := Zc.out; have := ZLc.out; have := ZHc.out; have := Z6004.out; omega) #[.int .i64 r1, .slice M1 r2.length m1_, .slice M2 r3.length m2_])
    have Z1060 := Aside0.mk (show W59.heap.size ≤ (W59.setRow b16 #[.int .i64 r1, .slice M1 r2.length m1_, .slice M2 r3.length m2_]).heap.size by simp [World.setRow])
    generalize W59.setRow b16 #[.int .i64 r1, .slice M1 r2.length m1_, .slice M2 r3.length m2_] = W60 at P16 P2 P3 P6 P9 P10 QW1 QW2 QW5 QG1 QG2 QG5 QM1 QM2 QM5 HB Z1060 ⊢
    refine hK.out _ _ ⟨P2.out, P3.out⟩ (fun hHeld => ?_)
    clear hK K hHeld
    refine norm_ (a' := ?_) ?_ ?_
    rotate_left
    · show Act.put _ none _ = _
      simp only [Act.put, List.setIfInBounds_toArray, List.set_cons_zero, List.set_cons_succ, i64_w, i32_w]
      rfl
    refine pu_ 11 (some 17) (bt_ 13 4095) (by kernel_rfl) ?_
    refine pu_ 12 (some 18) (bt_ 13 8191) (by kernel_rfl) ?_
    refine done_ (by kernel_rfl) ?_
    go_wp2_with (first | ((with_reducible refine gate_dst (N := 113) rfl ?_); refine wpList_load_row rfl 29 (.tmp 16) rfl b16 rfl 29 #[.int .i64 r1, .slice M1 r2.length m1_, .slice M2 r3.length m2_] (0, 0) _ P16.out hu29 rfl (by kernel_rfl) ?_) | ((with_reducible refine gate_dst (N := 114) rfl ?_); refine wpList_load_row rfl 29 (.tmp 6) rfl b6 rfl 29 #[.int .i64 r1, .slice V1 r2.length v1_, .slice V2 r3.length v2_] (0, 0) _ P6.out hu29 rfl (by kernel_rfl) ?_))
    refine (laws_eqLock.calls k r1 M1 m1_ r2 M2 m2_ r3 r1 V1 v1_ r2 V2 v2_ r3 true W60 (QM1.out.reads).2.2 (QM1.out.reads).2.1 (QM2.out.reads).2.2 (QM2.out.reads).2.1 (QW1.out.reads).2.2 (QW1.out.reads).2.1 (QW2.out.reads).2.2 (QW2.out.reads).2.1 HE1.out).mono ?_
    rintro e W61 ⟨rfl, hb⟩
    have Z6106 := Aside0.mk (hb).size
    have P2 := Aside0.mk (blk_below P2.out hb)
    have P3 := Aside0.mk (blk_below P3.out hb)
    have P6 := Aside0.mk (blk_below P6.out hb)
    have P9 := Aside0.mk (blk_below P9.out hb)
    have P10 := Aside0.mk (blk_below P10.out hb)
    have P16 := Aside0.mk (blk_below P16.out hb)
    have QW1 := Aside0.mk (Row.below QW1.out hb)
    have QW2 := Aside0.mk (Row.below QW2.out hb)
    have QW5 := Aside0.mk (Row.below QW5.out hb)
    have QG1 := Aside0.mk (Row.below QG1.out hb)
    have QG2 := Aside0.mk (Row.below QG2.out hb)
    have QG5 := Aside0.mk (Row.below QG5.out hb)
    have QM1 := Aside0.mk (Row.below QM1.out hb)
    have QM2 := Aside0.mk (Row.below QM2.out hb)
    have QM5 := Aside0.mk (Row.below QM5.out hb)
    have HB := Aside0.mk (below_step HB.out hb)
    clear hb
    go_wp2_with (fail)
    refine (laws_eqHoldS.calls k M5 m5_ r5 V5 v5_ r5 true W61 (QM5.out.reads).2.2 (QM5.out.reads).2.1 (QW5.out.reads).2.2 (QW5.out.reads).2.1 HE2.out).mono ?_
    rintro e W62 ⟨rfl, hb⟩
    have Z6207 := Aside0.mk (hb).size
    have P2 := Aside0.mk (blk_below P2.out hb)
    have P3 := Aside0.mk (blk_below P3.out hb)
    have P6 := Aside0.mk (blk_below P6.out hb)
    have P9 := Aside0.mk (blk_below P9.out hb)
    have P10 := Aside0.mk (blk_below P10.out hb)
    have P16 := Aside0.mk (blk_below P16.out hb)
    have QW1 := Aside0.mk (Row.below QW1.out hb)
    have QW2 := Aside0.mk (Row.below QW2.out hb)
    have QW5 := Aside0.mk (Row.below QW5.out hb)
    have QG1 := Aside0.mk (Row.below QG1.out hb)
    have QG2 := Aside0.mk (Row.below QG2.out hb)
    have QG5 := Aside0.mk (Row.below QG5.out hb)
    have QM1 := Aside0.mk (Row.below QM1.out hb)
    have QM2 := Aside0.mk (Row.below QM2.out hb)
    have QM5 := Aside0.mk (Row.below QM5.out hb)
    have HB := Aside0.mk (below_step HB.out hb)
    clear hb
    go_wp2_with (((with_reducible refine gate_dst (N := 128) rfl ?_); refine wpList_load_row rfl 29 (.tmp 10) rfl b10 rfl 29 #[.int .i64 r1, .slice H1 r2.length h1_, .slice H2 r3.length h2_] (0, 0) _ P10.out hu29 rfl (by kernel_rfl) ?_))
    have hc_ := laws_heldLock.calls k r1 H1 h1_ G1 H2 h2_ G2 1 n1 W62 (QG1.out.reads).2.2 (by rw [HG1.out]; exact (QG1.out.reads).2.1) (QG2.out.reads).2.2 (by rw [HG2.out]; exact (QG2.out.reads).2.1) HHG.out
    rw [HG1.out, HG2.out] at hc_
    refine hc_.mono ?_
    clear hc_
    rintro e W63 ⟨rfl, hb⟩
    have Z6308 := Aside0.mk (hb).size
    have P2 := Aside0.mk (blk_below P2.out hb)
    have P3 := Aside0.mk (blk_below P3.out hb)
    have P6 := Aside0.mk (blk_below P6.out hb)
    have P9 := Aside0.mk (blk_below P9.out hb)
    have P10 := Aside0.mk (blk_below P10.out hb)
    have P16 := Aside0.mk (blk_below P16.out hb)
    have QW1 := Aside0.mk (Row.below QW1.out hb)
    have QW2 := Aside0.mk (Row.below QW2.out hb)
    have QW5 := Aside0.mk (Row.below QW5.out hb)
    have QG1 := Aside0.mk (Row.below QG1.out hb)
    have QG2 := Aside0.mk (Row.below QG2.out hb)
    have QG5 := Aside0.mk (Row.below QG5.out hb)
    have QM1 := Aside0.mk (Row.below QM1.out hb)
    have QM2 := Aside0.mk (Row.below QM2.out hb)
    have QM5 := Aside0.mk (Row.below QM5.out hb)
    have HB := Aside0.mk (below_step HB.out hb)
    clear hb
    have hnd : decide (n1 < 0) = false := decide_eq_false (by have := HN1.out; omega)
    go_wp2_with (fail)
    clear hnd
    have hc_ := laws_heldHoldS.calls k H5 h5_ G5 n1 n2 W63 (QG5.out.reads).2.2 (by rw [HG5.out]; exact (QG5.out.reads).2.1) HHH.out
    rw [HG5.out] at hc_
    refine hc_.mono ?_
    clear hc_
    rintro e wz_ ⟨rfl, ⟨nd, rfl⟩⟩
    have hb := pw_below_drewN (Below.refl W63.heap.size W63) nd
    generalize W63.drewN nd = W64 at hb ⊢
    have Z6409 := Aside0.mk (hb).size
    have P2 := Aside0.mk (blk_below P2.out hb)
    have P3 := Aside0.mk (blk_below P3.out hb)
    have P6 := Aside0.mk (blk_below P6.out hb)
    have P9 := Aside0.mk (blk_below P9.out hb)
    have P10 := Aside0.mk (blk_below P10.out hb)
    have P16 := Aside0.mk (blk_below P16.out hb)
    have QW1 := Aside0.mk (Row.below QW1.out hb)
    have QW2 := Aside0.mk (Row.below QW2.out hb)
    have QW5 := Aside0.mk (Row.below QW5.out hb)
    have QG1 := Aside0.mk (Row.below QG1.out hb)
    have QG2 := Aside0.mk (Row.below QG2.out hb)
    have QG5 := Aside0.mk (Row.below QG5.out hb)
    have QM1 := Aside0.mk (Row.below QM1.out hb)
    have QM2 := Aside0.mk (Row.below QM2.out hb)
    have QM5 := Aside0.mk (Row.below QM5.out hb)
    have HB := Aside0.mk (below_step HB.out hb)
    clear hb
    have hnd : decide (n2 < 0) = false := decide_eq_false (by have := HN2.out; omega)
    go_wp2_with (fail)
    clear hnd
    go_ret
    exact ⟨rfl, HB.out⟩
/-- What remains: the facts of the plain law. -/
def laws_FnExactLockAsk.Pure : Prop := ∀ (s : Int) (l1 l2 : List S42) (a b : Int) (c d : Bool), B24 (⟨s, l1, l2⟩ : S24) → B42 (⟨a, b, c, d⟩ : S42) → ∃ (k : Nat) (z : Int), laws_szLock.f s l1 l2 1048576 = some z ∧ (¬ z < 0 → AskFacts k s l1 l2 a b c d)
theorem laws_FnExactLockAsk.walk (P : laws_FnExactLockAsk.Pure) (a0_0 : Int) (A0_1 : Option Addr) (c0_1 : Nat) (l0_1 : List (S42)) (A0_2 : Option Addr) (c0_2 : Nat) (l0_2 : List (S42)) (a1_0 : Int) (a1_1 : Int) (a1_2 : Bool) (a1_3 : Bool) (w : World) (hr0_1 : Kd.C k42 w A0_1 l0_1.length l0_1) (hc0_1 : l0_1.length ≤ c0_1) (hr0_2 : Kd.C k42 w A0_2 l0_2.length l0_2) (hc0_2 : l0_2.length ≤ c0_2) (w0 : B24 (⟨a0_0, l0_1, l0_2⟩ : S24)) (w1 : B42 (⟨a1_0, a1_1, a1_2, a1_3⟩ : S42)) :
 Calls Try.prog 6 #[.agg #[.int .i64 a0_0, .slice A0_1 l0_1.length c0_1, .slice A0_2 l0_2.length c0_2], .agg #[.int .i64 a1_0, .int .i64 a1_1, .bool a1_2, .bool a1_3]] w fun e w' => e = .returned (.bool true) ∧ Below w.heap.size w w' := by
  obtain ⟨k, z, h1, h2⟩ := P a0_0 l0_1 l0_2 a1_0 a1_1 a1_2 a1_3 w0 w1
  exact law_main k a0_0 A0_1 c0_1 l0_1 A0_2 c0_2 l0_2 a1_0 a1_1 a1_2 a1_3 z w hr0_1 hc0_1 hr0_2 hc0_2 h1 h2
end Go.Proofs.Ytjldpnhlegbjkaa.PA
