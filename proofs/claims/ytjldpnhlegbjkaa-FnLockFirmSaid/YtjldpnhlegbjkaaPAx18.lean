import Derived.Test.YtjldpnhlegbjkaaPAx0
import Derived.Test.YtjldpnhlegbjkaaPAx13
namespace Go.Proofs.Ytjldpnhlegbjkaa.PA
open Go.RowKit Go.Proofs.YtjldpnhlegbjkaaW.PrintWords Go.Proofs.YtjldpnhlegbjkaaW.PrintLast Go.Proofs.YtjldpnhlegbjkaaW.PrintMore
attribute [local go_sem] max2_int min2_int max_two min_two max_three min_three max_four min_four
set_option linter.unusedVariables false
set_option linter.unusedSimpArgs false

mutual
def spec_l11May.l0 : Nat → Int → Int → List (S45) → List (S45) → Int → Int → Bool → Bool → Option (Bool)
 | 0, _, _, _, _, _, _, _, _ => none
 | k + 1, x5, x530002000, x530002001, x530002002, x530003000, x530003001, x530003002, x530003003 => if x5 < (x530002001.length : Int) then (if 0 ≤ x5 then ((spec_l11Meet.f ((rd_T45 x530002001 x5).f0) ((rd_T45 x530002001 x5).f1) ((rd_T45 x530002001 x5).f2) ((rd_T45 x530002001 x5).f3) x530003000 x530003001 x530003002 x530003003).bind fun t530004 => (if t530004 = true then (some false) else (spec_l11May.l0 k (wrap64 (x5 + 1)) x530002000 x530002001 x530002002 x530003000 x530003001 x530003002 x530003003))) else (none)) else (spec_l11May.l1 k 0 x530002000 x530002001 x530002002 x530003000 x530003001 x530003002 x530003003)
def spec_l11May.l1 : Nat → Int → Int → List (S45) → List (S45) → Int → Int → Bool → Bool → Option (Bool)
 | 0, _, _, _, _, _, _, _, _ => none
 | k + 1, x6, x530002000, x530002001, x530002002, x530003000, x530003001, x530003002, x530003003 => if x6 < (x530002002.length : Int) then (if 0 ≤ x6 then (if ((rd_T45 x530002002 x6).f0) < x530003000 then ((spec_l11Meet.f ((rd_T45 x530002002 x6).f0) ((rd_T45 x530002002 x6).f1) ((rd_T45 x530002002 x6).f2) ((rd_T45 x530002002 x6).f3) x530003000 x530003001 x530003002 x530003003).bind fun t530007 => (if t530007 = true then (some false) else (spec_l11May.l1 k (wrap64 (x6 + 1)) x530002000 x530002001 x530002002 x530003000 x530003001 x530003002 x530003003))) else (spec_l11May.l1 k (wrap64 (x6 + 1)) x530002000 x530002001 x530002002 x530003000 x530003001 x530003002 x530003003)) else (none)) else (some true)
end
def spec_l11May.f (k : Nat) (a0_0 : Int) (l0_1 : List (S45)) (l0_2 : List (S45)) (a1_0 : Int) (a1_1 : Int) (a1_2 : Bool) (a1_3 : Bool) : Option (Bool) := spec_l11May.l0 k 0 a0_0 l0_1 l0_2 a1_0 a1_1 a1_2 a1_3
theorem spec_l11May.mono_l : ∀ k, (∀ y0 y1 y2 y3 y4 y5 y6 y7, LeO (spec_l11May.l0 k y0 y1 y2 y3 y4 y5 y6 y7) (spec_l11May.l0 (k + 1) y0 y1 y2 y3 y4 y5 y6 y7)) ∧ (∀ y0 y1 y2 y3 y4 y5 y6 y7, LeO (spec_l11May.l1 k y0 y1 y2 y3 y4 y5 y6 y7) (spec_l11May.l1 (k + 1) y0 y1 y2 y3 y4 y5 y6 y7))
 | 0 => ⟨fun _ _ _ _ _ _ _ _ r h => by simp [spec_l11May.l0] at h, fun _ _ _ _ _ _ _ _ r h => by simp [spec_l11May.l1] at h⟩
 | k + 1 => by
  obtain ⟨ih0, ih1⟩ := spec_l11May.mono_l k
  refine ⟨?_, ?_⟩
  ·intro y0 y1 y2 y3 y4 y5 y6 y7
   unfold spec_l11May.l0
   repeat' first
   | (with_reducible exact ih0 _ _ _ _ _ _ _ _)
   | (with_reducible exact ih1 _ _ _ _ _ _ _ _)
   | (with_reducible exact LeO.refl _)
   | (with_reducible exact LeO.none _)
   | (with_reducible refine LeO.ite ?_ ?_)
   | (with_reducible refine LeO.bind ?_ (fun _ => ?_))
   | exact ih0 _ _ _ _ _ _ _ _
   | exact ih1 _ _ _ _ _ _ _ _
   | exact LeO.none _
   | refine LeO.ite ?_ ?_
   | refine LeO.bind ?_ (fun _ => ?_)
  ·intro y0 y1 y2 y3 y4 y5 y6 y7
   unfold spec_l11May.l1
   repeat' first
   | (with_reducible exact ih0 _ _ _ _ _ _ _ _)
   | (with_reducible exact ih1 _ _ _ _ _ _ _ _)
   | (with_reducible exact LeO.refl _)
   | (with_reducible exact LeO.none _)
   | (with_reducible refine LeO.ite ?_ ?_)
   | (with_reducible refine LeO.bind ?_ (fun _ => ?_))
   | exact ih0 _ _ _ _ _ _ _ _
   | exact ih1 _ _ _ _ _ _ _ _
   | exact LeO.none _
   | refine LeO.ite ?_ ?_
   | refine LeO.bind ?_ (fun _ => ?_)
theorem spec_l11May.mono : ∀ a0 a1 a2 a3 a4 a5 a6 k, LeO (spec_l11May.f k a0 a1 a2 a3 a4 a5 a6) (spec_l11May.f (k + 1) a0 a1 a2 a3 a4 a5 a6) := by
 intro a0 a1 a2 a3 a4 a5 a6 k
 obtain ⟨ih0, ih1⟩ := spec_l11May.mono_l k
 unfold spec_l11May.f
 repeat' first
  | (with_reducible exact ih0 _ _ _ _ _ _ _ _)
  | (with_reducible exact ih1 _ _ _ _ _ _ _ _)
  | (with_reducible exact LeO.refl _)
  | (with_reducible exact LeO.none _)
  | (with_reducible refine LeO.ite ?_ ?_)
  | (with_reducible refine LeO.bind ?_ (fun _ => ?_))
  | exact ih0 _ _ _ _ _ _ _ _
  | exact ih1 _ _ _ _ _ _ _ _
  | exact LeO.none _
  | refine LeO.ite ?_ ?_
  | refine LeO.bind ?_ (fun _ => ?_)
def spec_l11May.T9 : Bool × List (List Nat × List Nat) := (true, [([], []), ([0], [0]), ([], []), ([1, 2], [1, 2]), ([3], [3]), ([4], [4]), ([], []), ([6], [6]), ([5, 7], [5, 7]), ([8], [8]), ([9], [9]), ([10, 9], [9, 10]), ([9], [9]), ([11, 12, 9], [9, 11, 12]), ([13, 9], [9, 13]), ([9], [9]), ([14, 15, 9, 9], [9, 14, 15]), ([9, 16], [9, 16])])
def spec_l11May.B9 : List Nat := [0, 1, 0, 7, 15, 31, 0, 64, 255, 511, 1023, 2047, 1023, 8191, 16383, 1023, 65535, 131071]
theorem spec_l11May.tab9 : rtab .any (opsOf Try.f52 9) = spec_l11May.T9 := by kernel_rfl
theorem spec_l11May.bits9 : waitsOk spec_l11May.T9.2 spec_l11May.B9 = true := by kernel_rfl
set_option maxHeartbeats 8000000 in
set_option maxRecDepth 100000 in
theorem spec_l11May.calls (k : Nat) (a0_0 : Int) (A0_1 : Option Addr) (c0_1 : Nat) (l0_1 : List (S45)) (A0_2 : Option Addr) (c0_2 : Nat) (l0_2 : List (S45)) (a1_0 : Int) (a1_1 : Int) (a1_2 : Bool) (a1_3 : Bool) (r : Bool) (w : World) (hr0_1 : Kd.C k45 w A0_1 l0_1.length l0_1) (hc0_1 : l0_1.length ≤ c0_1) (hr0_2 : Kd.C k45 w A0_2 l0_2.length l0_2) (hc0_2 : l0_2.length ≤ c0_2) (h : spec_l11May.f k a0_0 l0_1 l0_2 a1_0 a1_1 a1_2 a1_3 = some r) :
 Calls Try.prog 52 #[.agg #[.int .i64 a0_0, .slice A0_1 l0_1.length c0_1, .slice A0_2 l0_2.length c0_2], .agg #[.int .i64 a1_0, .int .i64 a1_1, .bool a1_2, .bool a1_3]] w fun e w' => e = .returned (.bool r) ∧ Below w.heap.size w w' := by
 have hu29 := Try.underlying29
 have hu45 := Try.underlying45
 have HR0_1 := Aside0.mk hr0_1
 have HC0_1 := Aside0.mk hc0_1
 clear hr0_1 hc0_1
 have HR0_2 := Aside0.mk hr0_2
 have HC0_2 := Aside0.mk hc0_2
 clear hr0_2 hc0_2
 have HB := Aside0.mk (Below.refl w.heap.size w)
 have H : (spec_l11May.l0 k 0 a0_0 l0_1 l0_2 a1_0 a1_1 a1_2 a1_3) = some r := h
 clear h
 have H' := Aside0.mk H
 clear H
 go_enter Try.func52, Try.ntmps52
 go_wp2_with (first | ((with_reducible refine gate_dst (N := 2) rfl ?_); refine box_event ?hg (N := 2) ?hd (cs := #[.int .i64 a0_0, .slice A0_1 l0_1.length c0_1, .slice A0_2 l0_2.length c0_2]) (t := 29) ?hr ?_; (case hd => rfl); (case hg => rfl); (case hr => first | (go_simp; done) | (go_simp; rfl)); intro jc hg w3 hbox hb; have n0_ := Aside0.mk (below_step (hb_ HB.out) hb); have n1_ := Aside0.mk (hbox); have n2_ := Aside0.mk ((by rw [hg]; exact (below_size (hb_ HB.out)) : w.heap.size ≤ jc)); have n3_ := Aside0.mk ((by rw [hg]; exact (below_size (hb_ HB.out)) : w.heap.size ≤ jc)); clear HB; have HB := n0_; have ja := n1_; have jV := n2_; have jO := n3_; clear n0_ n1_ n2_ n3_; clear hb hbox hg) | ((with_reducible refine gate_dst (N := 3) rfl ?_); refine box_event ?hg (N := 3) ?hd (cs := #[.int .i64 a1_0, .int .i64 a1_1, .bool a1_2, .bool a1_3]) (t := 45) ?hr ?_; (case hd => rfl); (case hg => rfl); (case hr => first | (go_simp; done) | (go_simp; rfl)); intro je hg w4 hbox hb; have n0_ := Aside0.mk (blk_below (bk_ ja.out) hb); have n1_ := Aside0.mk (below_step (hb_ HB.out) hb); have n2_ := Aside0.mk (hbox); have n3_ := Aside0.mk ((by rw [hg]; exact (below_size (hb_ HB.out)) : w.heap.size ≤ je)); have n4_ := Aside0.mk ((by rw [hg]; exact (below_size (hb_ HB.out)) : w.heap.size ≤ je)); have n5_ := Aside0.mk ((by rw [hg]; exact Nat.ne_of_lt (blk_lt (g := jc) (o := .cells #[.int .i64 a0_0, .slice A0_1 l0_1.length c0_1, .slice A0_2 l0_2.length c0_2] 29 (0, 0)) (bk_ ja.out)) : jc ≠ je)); have n6_ := Aside0.mk ((by rw [hg]; exact Nat.ne_of_gt (blk_lt (g := jc) (o := .cells #[.int .i64 a0_0, .slice A0_1 l0_1.length c0_1, .slice A0_2 l0_2.length c0_2] 29 (0, 0)) (bk_ ja.out)) : je ≠ jc)); clear ja; clear HB; have ja := n0_; have HB := n1_; have jb := n2_; have jW := n3_; have jP := n4_; have jJ := n5_; have jK := n6_; clear n0_ n1_ n2_ n3_ n4_ n5_ n6_; clear hb hbox hg))
 go_loopg [5] k (fun kq v5 w' => ∃ (x5_1 : Int), v5 = .int .i64 x5_1 ∧ Aside0 (spec_l11May.l0 kq x5_1 a0_0 l0_1 l0_2 a1_0 a1_1 a1_2 a1_3 = some r) ∧ Aside0 (kq ≤ k) ∧ Aside0 (w'.heap[jc]? = some (.cells #[.int .i64 a0_0, (.slice A0_1 l0_1.length c0_1), (.slice A0_2 l0_2.length c0_2)] 29 (0, 0))) ∧ Aside0 (w'.heap[je]? = some (.cells #[.int .i64 a1_0, .int .i64 a1_1, .bool a1_2, .bool a1_3] 45 (0, 0))) ∧ Aside0 (Below w.heap.size w w'))
 case atStart => exact ⟨(0), (by first | rfl | (simp; done) | (simp [*]; done)), H', ⟨Nat.le_refl _⟩, ⟨bk_ ja.out⟩, ⟨bk_ jb.out⟩, ⟨hb_ HB.out⟩⟩
 case round =>
  clear H'
  try clear p2
  obtain ⟨x5_1, rfl, HA, HK1, ja, jb, HB⟩ := hrel
  cases gk with
  | zero => exact absurd HA.out (by simp [spec_l11May.l0])
  | succ k1 =>
   have H := HA.out
   clear HA
   simp only [spec_l11May.l0] at H
   by_cases c5 : x5_1 < (l0_1.length : Int)
   ·rw [if_pos c5] at H
    have c5b0 : decide (x5_1 < (l0_1.length : Int)) = true := decide_eq_true c5
    clear c5
    by_cases c6 : 0 ≤ x5_1
    ·rw [if_pos c6] at H
     have c6b0 : decide (0 ≤ x5_1) = true := decide_eq_true c6
     clear c6
     replace H := Option.bind_eq_some_iff.mp H
     obtain ⟨jT, A70, H⟩ := H
     replace H : (if jT = true then (some false) else (spec_l11May.l0 k1 (wrap64 (x5_1 + 1)) a0_0 l0_1 l0_2 a1_0 a1_1 a1_2 a1_3)) = some r := H
     have A7 := Aside0.mk A70
     clear A70
     by_cases c8 : jT = true
     ·subst c8
      have H1 : (some false) = some r := by rw [if_pos rfl] at H; exact H
      clear H
      have H := H1
      clear H1
      obtain rfl := Option.some.inj H
      have hnb9 := jJ.out
      have hnc9 := jK.out
      have hcz10_0 : wr.cell? ⟨jc, 0, none⟩ = some (.int .i64 a0_0) := (blk_cell ja.out 0).trans rfl
      have hcz10_1 : wr.cell? ⟨jc, 1, none⟩ = some (.slice A0_1 l0_1.length c0_1) := (blk_cell ja.out 1).trans rfl
      have hcz10_2 : wr.cell? ⟨jc, 2, none⟩ = some (.slice A0_2 l0_2.length c0_2) := (blk_cell ja.out 2).trans rfl
      have hfz10_0 := blk_frozen ja.out 0
      have hfz10_1 := blk_frozen ja.out 1
      have hfz10_2 := blk_frozen ja.out 2
      try go_wp2
      have n0_ := Aside0.mk (blk_drew ja.out)
      have n1_ := Aside0.mk (blk_drew jb.out)
      have n2_ := Aside0.mk (below_drew1 HB.out)
      clear ja
      clear jb
      clear HB
      have ja := n0_
      have jb := n1_
      have HB := n2_
      clear n0_ n1_ n2_
      have jI : 0 ≤ (x5_1 : Int) := of_decide_eq_true (by first | (with_reducible assumption) | assumption)
      have jG : x5_1 < (l0_1.length : Int) := of_decide_eq_true (by first | (with_reducible assumption) | assumption)
      obtain ⟨ji, jS, jk, jm, jo, jr⟩ := at_T45 HR0_1.out x5_1 jI jG
      have jA := jr
      have jE := jo
      have jy := jm
      have jz := jk
      cases jS
      replace jk := (HB.out.cell (World.block_lt_of_cell? w _ jk)).trans jk
      replace jm := (HB.out.cell (World.block_lt_of_cell? w _ jm)).trans jm
      replace jo := (HB.out.cell (World.block_lt_of_cell? w _ jo)).trans jo
      replace jr := (HB.out.cell (World.block_lt_of_cell? w _ jr)).trans jr
      replace jI := eq_true jI
      replace jG := eq_true jG
      refine start_ (n := 7) (S := fun w' => w'.cell? ⟨jc, 0, none⟩ = some (.int .i64 a0_0) ∧ w'.cell? ⟨jc, 1, none⟩ = some (.slice (some ji) l0_1.length c0_1) ∧ w'.cell? ⟨jc, 2, none⟩ = some (.slice A0_2 l0_2.length c0_2) ∧ w'.cell? ⟨je, 0, none⟩ = some (.int .i64 a1_0) ∧ w'.cell? ⟨je, 1, none⟩ = some (.int .i64 a1_1) ∧ w'.cell? ⟨je, 2, none⟩ = some (.bool a1_2) ∧ w'.cell? ⟨je, 3, none⟩ = some (.bool a1_3) ∧ w'.cell? (ji.add ((x5_1).toNat * 4)) = some (.int .i64 ((rd_T45 l0_1 x5_1).f0)) ∧ w'.cell? ⟨(ji.add ((x5_1).toNat * 4)).block, (ji.add ((x5_1).toNat * 4)).off + 1, none⟩ = some (.int .i64 ((rd_T45 l0_1 x5_1).f1)) ∧ w'.cell? ⟨(ji.add ((x5_1).toNat * 4)).block, (ji.add ((x5_1).toNat * 4)).off + 2, none⟩ = some (.bool ((rd_T45 l0_1 x5_1).f2)) ∧ w'.cell? ⟨(ji.add ((x5_1).toNat * 4)).block, (ji.add ((x5_1).toNat * 4)).off + 3, none⟩ = some (.bool ((rd_T45 l0_1 x5_1).f3))) (ds := []) (bt_ 7 0) (by kernel_rfl) rfl rfl ⟨(blk_cell ja.out 0).trans rfl, (blk_cell ja.out 1).trans rfl, (blk_cell ja.out 2).trans rfl, (blk_cell jb.out 0).trans rfl, (blk_cell jb.out 1).trans rfl, (blk_cell jb.out 2).trans rfl, (blk_cell jb.out 3).trans rfl, ((HB.out.cell (World.block_lt_of_cell? w _ jz)).trans jz), ((HB.out.cell (World.block_lt_of_cell? w _ jy)).trans jy), ((HB.out.cell (World.block_lt_of_cell? w _ jE)).trans jE), ((HB.out.cell (World.block_lt_of_cell? w _ jA)).trans jA)⟩ (fun hHeld => ?_)
      generalize wr.drew = w11 at ja jb HB jk jm jo jr hHeld ⊢
      refine pu_ 0 (some 14) (bt_ 7 1) (by kernel_rfl) ?_
      refine pu_ 2 (some 16) (bt_ 7 5) (by kernel_rfl) ?_
      refine tk_ 1 (some 15) (bt_ 7 7) (by kernel_rfl) hHeld ?_
      refine pu_ 3 (some 17) (bt_ 7 15) (by kernel_rfl) ?_
      refine tk_ 4 (some 18) (bt_ 7 31) (by kernel_rfl) hHeld ?_
      refine tk_ 5 (some 19) (bt_ 7 63) (by kernel_rfl) hHeld ?_
      refine one_ (i := 6) (N := some 20) (bt_ 7 127) rfl rfl (by kernel_rfl) (by decide) (fun K hK => ?_)
      refine goes_ Try.func40 (by kernel_rfl) rfl #[.agg #[.int .i64 ((rd_T45 l0_1 x5_1).f0), .int .i64 ((rd_T45 l0_1 x5_1).f1), .bool ((rd_T45 l0_1 x5_1).f2), .bool ((rd_T45 l0_1 x5_1).f3)], .agg #[.int .i64 a1_0, .int .i64 a1_1, .bool a1_2, .bool a1_3]] (by rfl) rfl rfl (by (try simp only [List.map_toArray, List.map_cons, List.map_nil]); first | done | rfl | (simp only [List.length_drop, List.length_take]; rfl)) ?_
      with_reducible refine (spec_l11Meet.calls ((rd_T45 l0_1 x5_1).f0) ((rd_T45 l0_1 x5_1).f1) ((rd_T45 l0_1 x5_1).f2) ((rd_T45 l0_1 x5_1).f3) a1_0 a1_1 a1_2 a1_3 true _ A7.out).mono ?_
      rintro e w12 ⟨rfl, hb⟩
      refine ⟨_, rfl, ?_⟩
      have n0_ := Aside0.mk (blk_below (bk_ ja.out) hb)
      have n1_ := Aside0.mk (blk_below (bk_ jb.out) hb)
      have n2_ := Aside0.mk (below_step (hb_ HB.out) hb)
      clear ja
      clear jb
      clear HB
      have ja := n0_
      have jb := n1_
      have HB := n2_
      clear n0_ n1_ n2_
      (try clear hb)
      (try clear hb2)
      (try clear hk)
      (try clear hi)
      refine hK.out _ _ ⟨(blk_cell ja.out 0).trans rfl, (blk_cell ja.out 1).trans rfl, (blk_cell ja.out 2).trans rfl, (blk_cell jb.out 0).trans rfl, (blk_cell jb.out 1).trans rfl, (blk_cell jb.out 2).trans rfl, (blk_cell jb.out 3).trans rfl, ((HB.out.cell (World.block_lt_of_cell? w _ jz)).trans jz), ((HB.out.cell (World.block_lt_of_cell? w _ jy)).trans jy), ((HB.out.cell (World.block_lt_of_cell? w _ jE)).trans jE), ((HB.out.cell (World.block_lt_of_cell? w _ jA)).trans jA)⟩ (fun hHeld => ?_)
      clear hK K
      refine norm_ (a' := ?_) ?_ ?_
      rotate_left
      ·show Act.put _ (some 20) _ = _
       simp only [Act.put, List.setIfInBounds_toArray, List.set_cons_zero, List.set_cons_succ, i64_w, i32_w]
       rfl
      refine done_ (by kernel_rfl) ?_
      try go_wp2
      go_ret
      exact ⟨by first | rfl | (simp [errW_none, errW_some] <;> rfl) | (simp [*, errW_none, errW_some] <;> rfl), by repeat (first | (with_reducible first | exact HB.out | apply below_alloc | apply pw_below_drewN | apply below_drew1 | refine below_set ?_ jO.out | refine below_set ?_ jP.out) | exact HB.out)⟩
     ·replace c8 := Bool.eq_false_iff.mpr c8
      subst c8
      have H1 : (spec_l11May.l0 k1 (wrap64 (x5_1 + 1)) a0_0 l0_1 l0_2 a1_0 a1_1 a1_2 a1_3) = some r := by rw [if_neg (show ¬ (false = true) by decide)] at H; exact H
      clear H
      have H := H1
      clear H1
      have H' := Aside0.mk H
      clear H
      have hnb13 := jJ.out
      have hnc13 := jK.out
      have hcz14_0 : wr.cell? ⟨jc, 0, none⟩ = some (.int .i64 a0_0) := (blk_cell ja.out 0).trans rfl
      have hcz14_1 : wr.cell? ⟨jc, 1, none⟩ = some (.slice A0_1 l0_1.length c0_1) := (blk_cell ja.out 1).trans rfl
      have hcz14_2 : wr.cell? ⟨jc, 2, none⟩ = some (.slice A0_2 l0_2.length c0_2) := (blk_cell ja.out 2).trans rfl
      have hfz14_0 := blk_frozen ja.out 0
      have hfz14_1 := blk_frozen ja.out 1
      have hfz14_2 := blk_frozen ja.out 2
      try go_wp2
      have n0_ := Aside0.mk (blk_drew ja.out)
      have n1_ := Aside0.mk (blk_drew jb.out)
      have n2_ := Aside0.mk (below_drew1 HB.out)
      clear ja
      clear jb
      clear HB
      have ja := n0_
      have jb := n1_
      have HB := n2_
      clear n0_ n1_ n2_
      have jI : 0 ≤ (x5_1 : Int) := of_decide_eq_true (by first | (with_reducible assumption) | assumption)
      have jG : x5_1 < (l0_1.length : Int) := of_decide_eq_true (by first | (with_reducible assumption) | assumption)
      obtain ⟨ji, jS, jk, jm, jo, jr⟩ := at_T45 HR0_1.out x5_1 jI jG
      have jA := jr
      have jE := jo
      have jy := jm
      have jz := jk
      cases jS
      replace jk := (HB.out.cell (World.block_lt_of_cell? w _ jk)).trans jk
      replace jm := (HB.out.cell (World.block_lt_of_cell? w _ jm)).trans jm
      replace jo := (HB.out.cell (World.block_lt_of_cell? w _ jo)).trans jo
      replace jr := (HB.out.cell (World.block_lt_of_cell? w _ jr)).trans jr
      replace jI := eq_true jI
      replace jG := eq_true jG
      refine start_ (n := 7) (S := fun w' => w'.cell? ⟨jc, 0, none⟩ = some (.int .i64 a0_0) ∧ w'.cell? ⟨jc, 1, none⟩ = some (.slice (some ji) l0_1.length c0_1) ∧ w'.cell? ⟨jc, 2, none⟩ = some (.slice A0_2 l0_2.length c0_2) ∧ w'.cell? ⟨je, 0, none⟩ = some (.int .i64 a1_0) ∧ w'.cell? ⟨je, 1, none⟩ = some (.int .i64 a1_1) ∧ w'.cell? ⟨je, 2, none⟩ = some (.bool a1_2) ∧ w'.cell? ⟨je, 3, none⟩ = some (.bool a1_3) ∧ w'.cell? (ji.add ((x5_1).toNat * 4)) = some (.int .i64 ((rd_T45 l0_1 x5_1).f0)) ∧ w'.cell? ⟨(ji.add ((x5_1).toNat * 4)).block, (ji.add ((x5_1).toNat * 4)).off + 1, none⟩ = some (.int .i64 ((rd_T45 l0_1 x5_1).f1)) ∧ w'.cell? ⟨(ji.add ((x5_1).toNat * 4)).block, (ji.add ((x5_1).toNat * 4)).off + 2, none⟩ = some (.bool ((rd_T45 l0_1 x5_1).f2)) ∧ w'.cell? ⟨(ji.add ((x5_1).toNat * 4)).block, (ji.add ((x5_1).toNat * 4)).off + 3, none⟩ = some (.bool ((rd_T45 l0_1 x5_1).f3))) (ds := []) (bt_ 7 0) (by kernel_rfl) rfl rfl ⟨(blk_cell ja.out 0).trans rfl, (blk_cell ja.out 1).trans rfl, (blk_cell ja.out 2).trans rfl, (blk_cell jb.out 0).trans rfl, (blk_cell jb.out 1).trans rfl, (blk_cell jb.out 2).trans rfl, (blk_cell jb.out 3).trans rfl, ((HB.out.cell (World.block_lt_of_cell? w _ jz)).trans jz), ((HB.out.cell (World.block_lt_of_cell? w _ jy)).trans jy), ((HB.out.cell (World.block_lt_of_cell? w _ jE)).trans jE), ((HB.out.cell (World.block_lt_of_cell? w _ jA)).trans jA)⟩ (fun hHeld => ?_)
      generalize wr.drew = w15 at ja jb HB jk jm jo jr hHeld ⊢
      refine pu_ 0 (some 14) (bt_ 7 1) (by kernel_rfl) ?_
      refine pu_ 2 (some 16) (bt_ 7 5) (by kernel_rfl) ?_
      refine tk_ 1 (some 15) (bt_ 7 7) (by kernel_rfl) hHeld ?_
      refine pu_ 3 (some 17) (bt_ 7 15) (by kernel_rfl) ?_
      refine tk_ 4 (some 18) (bt_ 7 31) (by kernel_rfl) hHeld ?_
      refine tk_ 5 (some 19) (bt_ 7 63) (by kernel_rfl) hHeld ?_
      refine one_ (i := 6) (N := some 20) (bt_ 7 127) rfl rfl (by kernel_rfl) (by decide) (fun K hK => ?_)
      refine goes_ Try.func40 (by kernel_rfl) rfl #[.agg #[.int .i64 ((rd_T45 l0_1 x5_1).f0), .int .i64 ((rd_T45 l0_1 x5_1).f1), .bool ((rd_T45 l0_1 x5_1).f2), .bool ((rd_T45 l0_1 x5_1).f3)], .agg #[.int .i64 a1_0, .int .i64 a1_1, .bool a1_2, .bool a1_3]] (by rfl) rfl rfl (by (try simp only [List.map_toArray, List.map_cons, List.map_nil]); first | done | rfl | (simp only [List.length_drop, List.length_take]; rfl)) ?_
      with_reducible refine (spec_l11Meet.calls ((rd_T45 l0_1 x5_1).f0) ((rd_T45 l0_1 x5_1).f1) ((rd_T45 l0_1 x5_1).f2) ((rd_T45 l0_1 x5_1).f3) a1_0 a1_1 a1_2 a1_3 false _ A7.out).mono ?_
      rintro e w16 ⟨rfl, hb⟩
      refine ⟨_, rfl, ?_⟩
      have n0_ := Aside0.mk (blk_below (bk_ ja.out) hb)
      have n1_ := Aside0.mk (blk_below (bk_ jb.out) hb)
      have n2_ := Aside0.mk (below_step (hb_ HB.out) hb)
      clear ja
      clear jb
      clear HB
      have ja := n0_
      have jb := n1_
      have HB := n2_
      clear n0_ n1_ n2_
      (try clear hb)
      (try clear hb2)
      (try clear hk)
      (try clear hi)
      refine hK.out _ _ ⟨(blk_cell ja.out 0).trans rfl, (blk_cell ja.out 1).trans rfl, (blk_cell ja.out 2).trans rfl, (blk_cell jb.out 0).trans rfl, (blk_cell jb.out 1).trans rfl, (blk_cell jb.out 2).trans rfl, (blk_cell jb.out 3).trans rfl, ((HB.out.cell (World.block_lt_of_cell? w _ jz)).trans jz), ((HB.out.cell (World.block_lt_of_cell? w _ jy)).trans jy), ((HB.out.cell (World.block_lt_of_cell? w _ jE)).trans jE), ((HB.out.cell (World.block_lt_of_cell? w _ jA)).trans jA)⟩ (fun hHeld => ?_)
      clear hK K
      refine norm_ (a' := ?_) ?_ ?_
      rotate_left
      ·show Act.put _ (some 20) _ = _
       simp only [Act.put, List.setIfInBounds_toArray, List.set_cons_zero, List.set_cons_succ, i64_w, i32_w]
       rfl
      refine done_ (by kernel_rfl) ?_
      try go_wp2
      go_roundg k1
      case measure => have := HK1.out; omega
      case rel => exact ⟨(wrap64 (x5_1 + 1)), (by first | rfl | (simp; done) | (simp [*]; done)), H', ⟨by have := HK1.out; omega⟩, ⟨bk_ ja.out⟩, ⟨bk_ jb.out⟩, ⟨hb_ HB.out⟩⟩
    ·rw [if_neg c6] at H
     exact absurd H (by simp)
   ·rw [if_neg c5] at H
    have c5b0 : decide (x5_1 < (l0_1.length : Int)) = false := decide_eq_false c5
    clear c5
    have H' := Aside0.mk H
    clear H
    have hnb17 := jJ.out
    have hnc17 := jK.out
    have hcz18_0 : wr.cell? ⟨jc, 0, none⟩ = some (.int .i64 a0_0) := (blk_cell ja.out 0).trans rfl
    have hcz18_1 : wr.cell? ⟨jc, 1, none⟩ = some (.slice A0_1 l0_1.length c0_1) := (blk_cell ja.out 1).trans rfl
    have hcz18_2 : wr.cell? ⟨jc, 2, none⟩ = some (.slice A0_2 l0_2.length c0_2) := (blk_cell ja.out 2).trans rfl
    have hfz18_0 := blk_frozen ja.out 0
    have hfz18_1 := blk_frozen ja.out 1
    have hfz18_2 := blk_frozen ja.out 2
    go_wp2
    go_loopg [6] k1 (fun kq v6 w' => ∃ (x6_2 : Int), v6 = .int .i64 x6_2 ∧ Aside0 (spec_l11May.l1 kq x6_2 a0_0 l0_1 l0_2 a1_0 a1_1 a1_2 a1_3 = some r) ∧ Aside0 (kq ≤ k1) ∧ Aside0 (w'.heap[jc]? = some (.cells #[.int .i64 a0_0, (.slice A0_1 l0_1.length c0_1), (.slice A0_2 l0_2.length c0_2)] 29 (0, 0))) ∧ Aside0 (w'.heap[je]? = some (.cells #[.int .i64 a1_0, .int .i64 a1_1, .bool a1_2, .bool a1_3] 45 (0, 0))) ∧ Aside0 (Below w.heap.size w w'))
    case atStart => exact ⟨(0), (by first | rfl | (simp; done) | (simp [*]; done)), H', ⟨Nat.le_refl _⟩, ⟨bk_ ja.out⟩, ⟨bk_ jb.out⟩, ⟨hb_ HB.out⟩⟩
    case round =>
     clear H'
     try clear c1
     try clear p2
     try clear c4
     try clear c5
     try clear c5b0
     try clear p5
     try clear q5
     try clear hx5
     try clear c6
     try clear c6b0
     try clear p6
     try clear c8
     try clear c9
     try clear c13
     try clear c17
     try clear hcz10_0
     try clear hcz10_1
     try clear hcz10_2
     try clear hcz14_0
     try clear hcz14_1
     try clear hcz14_2
     try clear hcz18_0
     try clear hcz18_1
     try clear hcz18_2
     try clear hfz10_0
     try clear hfz10_1
     try clear hfz10_2
     try clear hfz14_0
     try clear hfz14_1
     try clear hfz14_2
     try clear hfz18_0
     try clear hfz18_1
     try clear hfz18_2
     try clear jk
     try clear jm
     try clear jo
     try clear jr
     try clear p2
     try clear jI
     try clear jG
     obtain ⟨x6_2, rfl, HA, HK2, ja, jb, HB⟩ := hrel
     cases gk with
     | zero => exact absurd HA.out (by simp [spec_l11May.l1])
     | succ k2 =>
      have H := HA.out
      clear HA
      simp only [spec_l11May.l1] at H
      by_cases c19 : x6_2 < (l0_2.length : Int)
      ·rw [if_pos c19] at H
       have c19b0 : decide (x6_2 < (l0_2.length : Int)) = true := decide_eq_true c19
       clear c19
       by_cases c20 : 0 ≤ x6_2
       ·rw [if_pos c20] at H
        have c20b0 : decide (0 ≤ x6_2) = true := decide_eq_true c20
        clear c20
        by_cases c21 : ((rd_T45 l0_2 x6_2).f0) < a1_0
        ·rw [if_pos c21] at H
         have c21b0 : decide (((rd_T45 l0_2 x6_2).f0) < a1_0) = true := decide_eq_true c21
         clear c21
         replace H := Option.bind_eq_some_iff.mp H
         obtain ⟨jU, A220, H⟩ := H
         replace H : (if jU = true then (some false) else (spec_l11May.l1 k2 (wrap64 (x6_2 + 1)) a0_0 l0_1 l0_2 a1_0 a1_1 a1_2 a1_3)) = some r := H
         have A22 := Aside0.mk A220
         clear A220
         by_cases c23 : jU = true
         ·subst c23
          have H1 : (some false) = some r := by rw [if_pos rfl] at H; exact H
          clear H
          have H := H1
          clear H1
          obtain rfl := Option.some.inj H
          have hnb24 := jJ.out
          have hnc24 := jK.out
          have hcz25_0 : wr.cell? ⟨jc, 0, none⟩ = some (.int .i64 a0_0) := (blk_cell ja.out 0).trans rfl
          have hcz25_1 : wr.cell? ⟨jc, 1, none⟩ = some (.slice A0_1 l0_1.length c0_1) := (blk_cell ja.out 1).trans rfl
          have hcz25_2 : wr.cell? ⟨jc, 2, none⟩ = some (.slice A0_2 l0_2.length c0_2) := (blk_cell ja.out 2).trans rfl
          have hfz25_0 := blk_frozen ja.out 0
          have hfz25_1 := blk_frozen ja.out 1
          have hfz25_2 := blk_frozen ja.out 2
          try go_wp2
          have n0_ := Aside0.mk (blk_drew ja.out)
          have n1_ := Aside0.mk (blk_drew jb.out)
          have n2_ := Aside0.mk (below_drew1 HB.out)
          clear ja
          clear jb
          clear HB
          have ja := n0_
          have jb := n1_
          have HB := n2_
          clear n0_ n1_ n2_
          have jt : 0 ≤ (x6_2 : Int) := of_decide_eq_true (by first | (with_reducible assumption) | assumption)
          have jv : x6_2 < (l0_2.length : Int) := of_decide_eq_true (by first | (with_reducible assumption) | assumption)
          obtain ⟨jd, jN, jj, jg, jh, jf⟩ := at_T45 HR0_2.out x6_2 jt jv
          have jn := jf
          have jl := jh
          have jq := jg
          have jp := jj
          cases jN
          replace jj := (HB.out.cell (World.block_lt_of_cell? w _ jj)).trans jj
          replace jg := (HB.out.cell (World.block_lt_of_cell? w _ jg)).trans jg
          replace jh := (HB.out.cell (World.block_lt_of_cell? w _ jh)).trans jh
          replace jf := (HB.out.cell (World.block_lt_of_cell? w _ jf)).trans jf
          replace jt := eq_true jt
          replace jv := eq_true jv
          have jM : 0 ≤ (x6_2 : Int) := of_decide_eq_true (by first | (with_reducible assumption) | assumption)
          have jL : x6_2 < (l0_2.length : Int) := of_decide_eq_true (by first | (with_reducible assumption) | assumption)
          obtain ⟨jR, jQ, js, ju, jw, jx⟩ := at_T45 HR0_2.out x6_2 jM jL
          have jF := jx
          have jD := jw
          have jC := ju
          have jB := js
          obtain rfl : jd = jR := (by injection jQ)
          replace js := (HB.out.cell (World.block_lt_of_cell? w _ js)).trans js
          replace ju := (HB.out.cell (World.block_lt_of_cell? w _ ju)).trans ju
          replace jw := (HB.out.cell (World.block_lt_of_cell? w _ jw)).trans jw
          replace jx := (HB.out.cell (World.block_lt_of_cell? w _ jx)).trans jx
          replace jM := eq_true jM
          replace jL := eq_true jL
          refine start_ (n := 18) (S := fun w' => w'.cell? ⟨jc, 0, none⟩ = some (.int .i64 a0_0) ∧ w'.cell? ⟨jc, 1, none⟩ = some (.slice A0_1 l0_1.length c0_1) ∧ w'.cell? ⟨jc, 2, none⟩ = some (.slice (some jd) l0_2.length c0_2) ∧ w'.cell? ⟨je, 0, none⟩ = some (.int .i64 a1_0) ∧ w'.cell? ⟨je, 1, none⟩ = some (.int .i64 a1_1) ∧ w'.cell? ⟨je, 2, none⟩ = some (.bool a1_2) ∧ w'.cell? ⟨je, 3, none⟩ = some (.bool a1_3) ∧ w'.cell? (jd.add ((x6_2).toNat * 4)) = some (.int .i64 ((rd_T45 l0_2 x6_2).f0)) ∧ w'.cell? ⟨(jd.add ((x6_2).toNat * 4)).block, (jd.add ((x6_2).toNat * 4)).off + 1, none⟩ = some (.int .i64 ((rd_T45 l0_2 x6_2).f1)) ∧ w'.cell? ⟨(jd.add ((x6_2).toNat * 4)).block, (jd.add ((x6_2).toNat * 4)).off + 2, none⟩ = some (.bool ((rd_T45 l0_2 x6_2).f2)) ∧ w'.cell? ⟨(jd.add ((x6_2).toNat * 4)).block, (jd.add ((x6_2).toNat * 4)).off + 3, none⟩ = some (.bool ((rd_T45 l0_2 x6_2).f3)) ∧ w'.cell? (jd.add ((x6_2).toNat * 4)) = some (.int .i64 ((rd_T45 l0_2 x6_2).f0)) ∧ w'.cell? ⟨(jd.add ((x6_2).toNat * 4)).block, (jd.add ((x6_2).toNat * 4)).off + 1, none⟩ = some (.int .i64 ((rd_T45 l0_2 x6_2).f1)) ∧ w'.cell? ⟨(jd.add ((x6_2).toNat * 4)).block, (jd.add ((x6_2).toNat * 4)).off + 2, none⟩ = some (.bool ((rd_T45 l0_2 x6_2).f2)) ∧ w'.cell? ⟨(jd.add ((x6_2).toNat * 4)).block, (jd.add ((x6_2).toNat * 4)).off + 3, none⟩ = some (.bool ((rd_T45 l0_2 x6_2).f3))) (ds := []) (bt_ 18 0) (by kernel_rfl) rfl rfl ⟨(blk_cell ja.out 0).trans rfl, (blk_cell ja.out 1).trans rfl, (blk_cell ja.out 2).trans rfl, (blk_cell jb.out 0).trans rfl, (blk_cell jb.out 1).trans rfl, (blk_cell jb.out 2).trans rfl, (blk_cell jb.out 3).trans rfl, ((HB.out.cell (World.block_lt_of_cell? w _ jp)).trans jp), ((HB.out.cell (World.block_lt_of_cell? w _ jq)).trans jq), ((HB.out.cell (World.block_lt_of_cell? w _ jl)).trans jl), ((HB.out.cell (World.block_lt_of_cell? w _ jn)).trans jn), ((HB.out.cell (World.block_lt_of_cell? w _ jB)).trans jB), ((HB.out.cell (World.block_lt_of_cell? w _ jC)).trans jC), ((HB.out.cell (World.block_lt_of_cell? w _ jD)).trans jD), ((HB.out.cell (World.block_lt_of_cell? w _ jF)).trans jF)⟩ (fun hHeld => ?_); refine with_tabW spec_l11May.tab9 spec_l11May.bits9 (fun HT_ HW_ => ?_)
          generalize wr.drew = w26 at ja jb HB jj jg jh jf js ju jw jx hHeld ⊢
          refine pu_ 0 (some 28) (bt_ 18 1) (any_of HT_.out (by kernel_rfl)) ?_
          refine pu_ 2 (some 30) (bt_ 18 5) (any_of HT_.out (by kernel_rfl)) ?_
          refine pu_ 6 (some 34) (bt_ 18 69) (any_of HT_.out (by kernel_rfl)) ?_
          refine tk_ 1 (some 29) (bt_ 18 71) (take_ofW HT_.out HW_.out (by kernel_rfl)) hHeld ?_
          refine pu_ 3 (some 31) (bt_ 18 79) (any_of HT_.out (by kernel_rfl)) ?_
          refine pu_ 4 (some 32) (bt_ 18 95) (any_of HT_.out (by kernel_rfl)) ?_
          refine tk_ 5 (some 33) (bt_ 18 127) (take_ofW HT_.out HW_.out (by kernel_rfl)) hHeld ?_
          refine tk_ 7 (some 35) (bt_ 18 255) (take_ofW HT_.out HW_.out (by kernel_rfl)) hHeld ?_
          refine pu_ 8 (some 36) (bt_ 18 511) (any_of HT_.out (by kernel_rfl)) ?_
          refine pu_ 9 (some 37) (bt_ 18 1023) (any_of HT_.out (by kernel_rfl)) ?_
          refine pu_ 10 (some 38) (bt_ 18 2047) (any_of HT_.out (by kernel_rfl)) ?_
          refine pu_ 12 (some 40) (bt_ 18 6143) (any_of HT_.out (by kernel_rfl)) ?_
          refine tk_ 11 (some 39) (bt_ 18 8191) (take_ofW HT_.out HW_.out (by kernel_rfl)) hHeld ?_
          refine pu_ 13 (some 41) (bt_ 18 16383) (any_of HT_.out (by kernel_rfl)) ?_
          refine tk_ 14 (some 42) (bt_ 18 32767) (take_ofW HT_.out HW_.out (by kernel_rfl)) hHeld ?_
          refine tk_ 15 (some 43) (bt_ 18 65535) (take_ofW HT_.out HW_.out (by kernel_rfl)) hHeld ?_
          refine one_ (i := 16) (N := some 44) (bt_ 18 131071) rfl rfl (one_of HT_.out (by kernel_rfl)) (by decide) (fun K hK => ?_)
          refine goes_ Try.func40 (by kernel_rfl) rfl #[.agg #[.int .i64 ((rd_T45 l0_2 x6_2).f0), .int .i64 ((rd_T45 l0_2 x6_2).f1), .bool ((rd_T45 l0_2 x6_2).f2), .bool ((rd_T45 l0_2 x6_2).f3)], .agg #[.int .i64 a1_0, .int .i64 a1_1, .bool a1_2, .bool a1_3]] (by rfl) rfl rfl (by (try simp only [List.map_toArray, List.map_cons, List.map_nil]); first | done | rfl | (simp only [List.length_drop, List.length_take]; rfl)) ?_
          with_reducible refine (spec_l11Meet.calls ((rd_T45 l0_2 x6_2).f0) ((rd_T45 l0_2 x6_2).f1) ((rd_T45 l0_2 x6_2).f2) ((rd_T45 l0_2 x6_2).f3) a1_0 a1_1 a1_2 a1_3 true _ A22.out).mono ?_
          rintro e w27 ⟨rfl, hb⟩
          refine ⟨_, rfl, ?_⟩
          have n0_ := Aside0.mk (blk_below (bk_ ja.out) hb)
          have n1_ := Aside0.mk (blk_below (bk_ jb.out) hb)
          have n2_ := Aside0.mk (below_step (hb_ HB.out) hb)
          clear ja
          clear jb
          clear HB
          have ja := n0_
          have jb := n1_
          have HB := n2_
          clear n0_ n1_ n2_
          (try clear hb)
          (try clear hb2)
          (try clear hk)
          (try clear hi)
          refine hK.out _ _ ⟨(blk_cell ja.out 0).trans rfl, (blk_cell ja.out 1).trans rfl, (blk_cell ja.out 2).trans rfl, (blk_cell jb.out 0).trans rfl, (blk_cell jb.out 1).trans rfl, (blk_cell jb.out 2).trans rfl, (blk_cell jb.out 3).trans rfl, ((HB.out.cell (World.block_lt_of_cell? w _ jp)).trans jp), ((HB.out.cell (World.block_lt_of_cell? w _ jq)).trans jq), ((HB.out.cell (World.block_lt_of_cell? w _ jl)).trans jl), ((HB.out.cell (World.block_lt_of_cell? w _ jn)).trans jn), ((HB.out.cell (World.block_lt_of_cell? w _ jB)).trans jB), ((HB.out.cell (World.block_lt_of_cell? w _ jC)).trans jC), ((HB.out.cell (World.block_lt_of_cell? w _ jD)).trans jD), ((HB.out.cell (World.block_lt_of_cell? w _ jF)).trans jF)⟩ (fun hHeld => ?_)
          clear hK K
          refine norm_ (a' := ?_) ?_ ?_
          rotate_left
          ·show Act.put _ (some 44) _ = _
           simp only [Act.put, List.setIfInBounds_toArray, List.set_cons_zero, List.set_cons_succ, i64_w, i32_w]
           rfl
          refine pu_ 17 (some 45) (bt_ 18 262143) (any_of HT_.out (by kernel_rfl)) ?_
          refine done_ (done_of HT_.out (by kernel_rfl)) ?_
          try go_wp2
          go_ret
          exact ⟨by first | rfl | (simp [errW_none, errW_some] <;> rfl) | (simp [*, errW_none, errW_some] <;> rfl), by repeat (first | (with_reducible first | exact HB.out | apply below_alloc | apply pw_below_drewN | apply below_drew1 | refine below_set ?_ jO.out | refine below_set ?_ jP.out) | exact HB.out)⟩
         ·replace c23 := Bool.eq_false_iff.mpr c23
          subst c23
          have H1 : (spec_l11May.l1 k2 (wrap64 (x6_2 + 1)) a0_0 l0_1 l0_2 a1_0 a1_1 a1_2 a1_3) = some r := by rw [if_neg (show ¬ (false = true) by decide)] at H; exact H
          clear H
          have H := H1
          clear H1
          have H' := Aside0.mk H
          clear H
          have hnb28 := jJ.out
          have hnc28 := jK.out
          have hcz29_0 : wr.cell? ⟨jc, 0, none⟩ = some (.int .i64 a0_0) := (blk_cell ja.out 0).trans rfl
          have hcz29_1 : wr.cell? ⟨jc, 1, none⟩ = some (.slice A0_1 l0_1.length c0_1) := (blk_cell ja.out 1).trans rfl
          have hcz29_2 : wr.cell? ⟨jc, 2, none⟩ = some (.slice A0_2 l0_2.length c0_2) := (blk_cell ja.out 2).trans rfl
          have hfz29_0 := blk_frozen ja.out 0
          have hfz29_1 := blk_frozen ja.out 1
          have hfz29_2 := blk_frozen ja.out 2
          try go_wp2
          have n0_ := Aside0.mk (blk_drew ja.out)
          have n1_ := Aside0.mk (blk_drew jb.out)
          have n2_ := Aside0.mk (below_drew1 HB.out)
          clear ja
          clear jb
          clear HB
          have ja := n0_
          have jb := n1_
          have HB := n2_
          clear n0_ n1_ n2_
          have jt : 0 ≤ (x6_2 : Int) := of_decide_eq_true (by first | (with_reducible assumption) | assumption)
          have jv : x6_2 < (l0_2.length : Int) := of_decide_eq_true (by first | (with_reducible assumption) | assumption)
          obtain ⟨jd, jN, jj, jg, jh, jf⟩ := at_T45 HR0_2.out x6_2 jt jv
          have jn := jf
          have jl := jh
          have jq := jg
          have jp := jj
          cases jN
          replace jj := (HB.out.cell (World.block_lt_of_cell? w _ jj)).trans jj
          replace jg := (HB.out.cell (World.block_lt_of_cell? w _ jg)).trans jg
          replace jh := (HB.out.cell (World.block_lt_of_cell? w _ jh)).trans jh
          replace jf := (HB.out.cell (World.block_lt_of_cell? w _ jf)).trans jf
          replace jt := eq_true jt
          replace jv := eq_true jv
          have jM : 0 ≤ (x6_2 : Int) := of_decide_eq_true (by first | (with_reducible assumption) | assumption)
          have jL : x6_2 < (l0_2.length : Int) := of_decide_eq_true (by first | (with_reducible assumption) | assumption)
          obtain ⟨jR, jQ, js, ju, jw, jx⟩ := at_T45 HR0_2.out x6_2 jM jL
          have jF := jx
          have jD := jw
          have jC := ju
          have jB := js
          obtain rfl : jd = jR := (by injection jQ)
          replace js := (HB.out.cell (World.block_lt_of_cell? w _ js)).trans js
          replace ju := (HB.out.cell (World.block_lt_of_cell? w _ ju)).trans ju
          replace jw := (HB.out.cell (World.block_lt_of_cell? w _ jw)).trans jw
          replace jx := (HB.out.cell (World.block_lt_of_cell? w _ jx)).trans jx
          replace jM := eq_true jM
          replace jL := eq_true jL
          refine start_ (n := 18) (S := fun w' => w'.cell? ⟨jc, 0, none⟩ = some (.int .i64 a0_0) ∧ w'.cell? ⟨jc, 1, none⟩ = some (.slice A0_1 l0_1.length c0_1) ∧ w'.cell? ⟨jc, 2, none⟩ = some (.slice (some jd) l0_2.length c0_2) ∧ w'.cell? ⟨je, 0, none⟩ = some (.int .i64 a1_0) ∧ w'.cell? ⟨je, 1, none⟩ = some (.int .i64 a1_1) ∧ w'.cell? ⟨je, 2, none⟩ = some (.bool a1_2) ∧ w'.cell? ⟨je, 3, none⟩ = some (.bool a1_3) ∧ w'.cell? (jd.add ((x6_2).toNat * 4)) = some (.int .i64 ((rd_T45 l0_2 x6_2).f0)) ∧ w'.cell? ⟨(jd.add ((x6_2).toNat * 4)).block, (jd.add ((x6_2).toNat * 4)).off + 1, none⟩ = some (.int .i64 ((rd_T45 l0_2 x6_2).f1)) ∧ w'.cell? ⟨(jd.add ((x6_2).toNat * 4)).block, (jd.add ((x6_2).toNat * 4)).off + 2, none⟩ = some (.bool ((rd_T45 l0_2 x6_2).f2)) ∧ w'.cell? ⟨(jd.add ((x6_2).toNat * 4)).block, (jd.add ((x6_2).toNat * 4)).off + 3, none⟩ = some (.bool ((rd_T45 l0_2 x6_2).f3)) ∧ w'.cell? (jd.add ((x6_2).toNat * 4)) = some (.int .i64 ((rd_T45 l0_2 x6_2).f0)) ∧ w'.cell? ⟨(jd.add ((x6_2).toNat * 4)).block, (jd.add ((x6_2).toNat * 4)).off + 1, none⟩ = some (.int .i64 ((rd_T45 l0_2 x6_2).f1)) ∧ w'.cell? ⟨(jd.add ((x6_2).toNat * 4)).block, (jd.add ((x6_2).toNat * 4)).off + 2, none⟩ = some (.bool ((rd_T45 l0_2 x6_2).f2)) ∧ w'.cell? ⟨(jd.add ((x6_2).toNat * 4)).block, (jd.add ((x6_2).toNat * 4)).off + 3, none⟩ = some (.bool ((rd_T45 l0_2 x6_2).f3))) (ds := []) (bt_ 18 0) (by kernel_rfl) rfl rfl ⟨(blk_cell ja.out 0).trans rfl, (blk_cell ja.out 1).trans rfl, (blk_cell ja.out 2).trans rfl, (blk_cell jb.out 0).trans rfl, (blk_cell jb.out 1).trans rfl, (blk_cell jb.out 2).trans rfl, (blk_cell jb.out 3).trans rfl, ((HB.out.cell (World.block_lt_of_cell? w _ jp)).trans jp), ((HB.out.cell (World.block_lt_of_cell? w _ jq)).trans jq), ((HB.out.cell (World.block_lt_of_cell? w _ jl)).trans jl), ((HB.out.cell (World.block_lt_of_cell? w _ jn)).trans jn), ((HB.out.cell (World.block_lt_of_cell? w _ jB)).trans jB), ((HB.out.cell (World.block_lt_of_cell? w _ jC)).trans jC), ((HB.out.cell (World.block_lt_of_cell? w _ jD)).trans jD), ((HB.out.cell (World.block_lt_of_cell? w _ jF)).trans jF)⟩ (fun hHeld => ?_); refine with_tabW spec_l11May.tab9 spec_l11May.bits9 (fun HT_ HW_ => ?_)
          generalize wr.drew = w30 at ja jb HB jj jg jh jf js ju jw jx hHeld ⊢
          refine pu_ 0 (some 28) (bt_ 18 1) (any_of HT_.out (by kernel_rfl)) ?_
          refine pu_ 2 (some 30) (bt_ 18 5) (any_of HT_.out (by kernel_rfl)) ?_
          refine pu_ 6 (some 34) (bt_ 18 69) (any_of HT_.out (by kernel_rfl)) ?_
          refine tk_ 1 (some 29) (bt_ 18 71) (take_ofW HT_.out HW_.out (by kernel_rfl)) hHeld ?_
          refine pu_ 3 (some 31) (bt_ 18 79) (any_of HT_.out (by kernel_rfl)) ?_
          refine pu_ 4 (some 32) (bt_ 18 95) (any_of HT_.out (by kernel_rfl)) ?_
          refine tk_ 5 (some 33) (bt_ 18 127) (take_ofW HT_.out HW_.out (by kernel_rfl)) hHeld ?_
          refine tk_ 7 (some 35) (bt_ 18 255) (take_ofW HT_.out HW_.out (by kernel_rfl)) hHeld ?_
          refine pu_ 8 (some 36) (bt_ 18 511) (any_of HT_.out (by kernel_rfl)) ?_
          refine pu_ 9 (some 37) (bt_ 18 1023) (any_of HT_.out (by kernel_rfl)) ?_
          refine pu_ 10 (some 38) (bt_ 18 2047) (any_of HT_.out (by kernel_rfl)) ?_
          refine pu_ 12 (some 40) (bt_ 18 6143) (any_of HT_.out (by kernel_rfl)) ?_
          refine tk_ 11 (some 39) (bt_ 18 8191) (take_ofW HT_.out HW_.out (by kernel_rfl)) hHeld ?_
          refine pu_ 13 (some 41) (bt_ 18 16383) (any_of HT_.out (by kernel_rfl)) ?_
          refine tk_ 14 (some 42) (bt_ 18 32767) (take_ofW HT_.out HW_.out (by kernel_rfl)) hHeld ?_
          refine tk_ 15 (some 43) (bt_ 18 65535) (take_ofW HT_.out HW_.out (by kernel_rfl)) hHeld ?_
          refine one_ (i := 16) (N := some 44) (bt_ 18 131071) rfl rfl (one_of HT_.out (by kernel_rfl)) (by decide) (fun K hK => ?_)
          refine goes_ Try.func40 (by kernel_rfl) rfl #[.agg #[.int .i64 ((rd_T45 l0_2 x6_2).f0), .int .i64 ((rd_T45 l0_2 x6_2).f1), .bool ((rd_T45 l0_2 x6_2).f2), .bool ((rd_T45 l0_2 x6_2).f3)], .agg #[.int .i64 a1_0, .int .i64 a1_1, .bool a1_2, .bool a1_3]] (by rfl) rfl rfl (by (try simp only [List.map_toArray, List.map_cons, List.map_nil]); first | done | rfl | (simp only [List.length_drop, List.length_take]; rfl)) ?_
          with_reducible refine (spec_l11Meet.calls ((rd_T45 l0_2 x6_2).f0) ((rd_T45 l0_2 x6_2).f1) ((rd_T45 l0_2 x6_2).f2) ((rd_T45 l0_2 x6_2).f3) a1_0 a1_1 a1_2 a1_3 false _ A22.out).mono ?_
          rintro e w31 ⟨rfl, hb⟩
          refine ⟨_, rfl, ?_⟩
          have n0_ := Aside0.mk (blk_below (bk_ ja.out) hb)
          have n1_ := Aside0.mk (blk_below (bk_ jb.out) hb)
          have n2_ := Aside0.mk (below_step (hb_ HB.out) hb)
          clear ja
          clear jb
          clear HB
          have ja := n0_
          have jb := n1_
          have HB := n2_
          clear n0_ n1_ n2_
          (try clear hb)
          (try clear hb2)
          (try clear hk)
          (try clear hi)
          refine hK.out _ _ ⟨(blk_cell ja.out 0).trans rfl, (blk_cell ja.out 1).trans rfl, (blk_cell ja.out 2).trans rfl, (blk_cell jb.out 0).trans rfl, (blk_cell jb.out 1).trans rfl, (blk_cell jb.out 2).trans rfl, (blk_cell jb.out 3).trans rfl, ((HB.out.cell (World.block_lt_of_cell? w _ jp)).trans jp), ((HB.out.cell (World.block_lt_of_cell? w _ jq)).trans jq), ((HB.out.cell (World.block_lt_of_cell? w _ jl)).trans jl), ((HB.out.cell (World.block_lt_of_cell? w _ jn)).trans jn), ((HB.out.cell (World.block_lt_of_cell? w _ jB)).trans jB), ((HB.out.cell (World.block_lt_of_cell? w _ jC)).trans jC), ((HB.out.cell (World.block_lt_of_cell? w _ jD)).trans jD), ((HB.out.cell (World.block_lt_of_cell? w _ jF)).trans jF)⟩ (fun hHeld => ?_)
          clear hK K
          refine norm_ (a' := ?_) ?_ ?_
          rotate_left
          ·show Act.put _ (some 44) _ = _
           simp only [Act.put, List.setIfInBounds_toArray, List.set_cons_zero, List.set_cons_succ, i64_w, i32_w]
           rfl
          refine pu_ 17 (some 45) (bt_ 18 262143) (any_of HT_.out (by kernel_rfl)) ?_
          refine done_ (done_of HT_.out (by kernel_rfl)) ?_
          try go_wp2
          go_roundg k2
          case measure => have := HK1.out; have := HK2.out; omega
          case rel => exact ⟨(wrap64 (x6_2 + 1)), (by first | rfl | (simp; done) | (simp [*]; done)), H', ⟨by have := HK1.out; have := HK2.out; omega⟩, ⟨bk_ ja.out⟩, ⟨bk_ jb.out⟩, ⟨hb_ HB.out⟩⟩
        ·rw [if_neg c21] at H
         have c21b0 : decide (((rd_T45 l0_2 x6_2).f0) < a1_0) = false := decide_eq_false c21
         clear c21
         have H' := Aside0.mk H
         clear H
         have hnb32 := jJ.out
         have hnc32 := jK.out
         have hcz33_0 : wr.cell? ⟨jc, 0, none⟩ = some (.int .i64 a0_0) := (blk_cell ja.out 0).trans rfl
         have hcz33_1 : wr.cell? ⟨jc, 1, none⟩ = some (.slice A0_1 l0_1.length c0_1) := (blk_cell ja.out 1).trans rfl
         have hcz33_2 : wr.cell? ⟨jc, 2, none⟩ = some (.slice A0_2 l0_2.length c0_2) := (blk_cell ja.out 2).trans rfl
         have hfz33_0 := blk_frozen ja.out 0
         have hfz33_1 := blk_frozen ja.out 1
         have hfz33_2 := blk_frozen ja.out 2
         try go_wp2
         have n0_ := Aside0.mk (blk_drew ja.out)
         have n1_ := Aside0.mk (blk_drew jb.out)
         have n2_ := Aside0.mk (below_drew1 HB.out)
         clear ja
         clear jb
         clear HB
         have ja := n0_
         have jb := n1_
         have HB := n2_
         clear n0_ n1_ n2_
         have jt : 0 ≤ (x6_2 : Int) := of_decide_eq_true (by first | (with_reducible assumption) | assumption)
         have jv : x6_2 < (l0_2.length : Int) := of_decide_eq_true (by first | (with_reducible assumption) | assumption)
         obtain ⟨jd, jN, jj, jg, jh, jf⟩ := at_T45 HR0_2.out x6_2 jt jv
         have jn := jf
         have jl := jh
         have jq := jg
         have jp := jj
         cases jN
         replace jj := (HB.out.cell (World.block_lt_of_cell? w _ jj)).trans jj
         replace jg := (HB.out.cell (World.block_lt_of_cell? w _ jg)).trans jg
         replace jh := (HB.out.cell (World.block_lt_of_cell? w _ jh)).trans jh
         replace jf := (HB.out.cell (World.block_lt_of_cell? w _ jf)).trans jf
         replace jt := eq_true jt
         replace jv := eq_true jv
         refine start_ (n := 18) (S := fun w' => w'.cell? ⟨jc, 0, none⟩ = some (.int .i64 a0_0) ∧ w'.cell? ⟨jc, 1, none⟩ = some (.slice A0_1 l0_1.length c0_1) ∧ w'.cell? ⟨jc, 2, none⟩ = some (.slice (some jd) l0_2.length c0_2) ∧ w'.cell? ⟨je, 0, none⟩ = some (.int .i64 a1_0) ∧ w'.cell? ⟨je, 1, none⟩ = some (.int .i64 a1_1) ∧ w'.cell? ⟨je, 2, none⟩ = some (.bool a1_2) ∧ w'.cell? ⟨je, 3, none⟩ = some (.bool a1_3) ∧ w'.cell? (jd.add ((x6_2).toNat * 4)) = some (.int .i64 ((rd_T45 l0_2 x6_2).f0)) ∧ w'.cell? ⟨(jd.add ((x6_2).toNat * 4)).block, (jd.add ((x6_2).toNat * 4)).off + 1, none⟩ = some (.int .i64 ((rd_T45 l0_2 x6_2).f1)) ∧ w'.cell? ⟨(jd.add ((x6_2).toNat * 4)).block, (jd.add ((x6_2).toNat * 4)).off + 2, none⟩ = some (.bool ((rd_T45 l0_2 x6_2).f2)) ∧ w'.cell? ⟨(jd.add ((x6_2).toNat * 4)).block, (jd.add ((x6_2).toNat * 4)).off + 3, none⟩ = some (.bool ((rd_T45 l0_2 x6_2).f3))) (ds := []) (bt_ 18 0) (by kernel_rfl) rfl rfl ⟨(blk_cell ja.out 0).trans rfl, (blk_cell ja.out 1).trans rfl, (blk_cell ja.out 2).trans rfl, (blk_cell jb.out 0).trans rfl, (blk_cell jb.out 1).trans rfl, (blk_cell jb.out 2).trans rfl, (blk_cell jb.out 3).trans rfl, ((HB.out.cell (World.block_lt_of_cell? w _ jp)).trans jp), ((HB.out.cell (World.block_lt_of_cell? w _ jq)).trans jq), ((HB.out.cell (World.block_lt_of_cell? w _ jl)).trans jl), ((HB.out.cell (World.block_lt_of_cell? w _ jn)).trans jn)⟩ (fun hHeld => ?_); refine with_tabW spec_l11May.tab9 spec_l11May.bits9 (fun HT_ HW_ => ?_)
         generalize wr.drew = w34 at ja jb HB jj jg jh jf hHeld ⊢
         refine pu_ 0 (some 28) (bt_ 18 1) (any_of HT_.out (by kernel_rfl)) ?_
         refine pu_ 2 (some 30) (bt_ 18 5) (any_of HT_.out (by kernel_rfl)) ?_
         refine pu_ 6 (some 34) (bt_ 18 69) (any_of HT_.out (by kernel_rfl)) ?_
         refine tk_ 1 (some 29) (bt_ 18 71) (take_ofW HT_.out HW_.out (by kernel_rfl)) hHeld ?_
         refine pu_ 3 (some 31) (bt_ 18 79) (any_of HT_.out (by kernel_rfl)) ?_
         refine pu_ 4 (some 32) (bt_ 18 95) (any_of HT_.out (by kernel_rfl)) ?_
         refine tk_ 5 (some 33) (bt_ 18 127) (take_ofW HT_.out HW_.out (by kernel_rfl)) hHeld ?_
         refine tk_ 7 (some 35) (bt_ 18 255) (take_ofW HT_.out HW_.out (by kernel_rfl)) hHeld ?_
         refine pu_ 8 (some 36) (bt_ 18 511) (any_of HT_.out (by kernel_rfl)) ?_
         refine pu_ 9 (some 37) (bt_ 18 1023) (any_of HT_.out (by kernel_rfl)) ?_
         refine pn_ 10 (some 38) (bt_ 18 2047) (any_of HT_.out (by kernel_rfl)) ?_
         refine pn_ 11 (some 39) (bt_ 18 4095) (any_of HT_.out (by kernel_rfl)) ?_
         refine pn_ 12 (some 40) (bt_ 18 8191) (any_of HT_.out (by kernel_rfl)) ?_
         refine pn_ 13 (some 41) (bt_ 18 16383) (any_of HT_.out (by kernel_rfl)) ?_
         refine pn_ 14 (some 42) (bt_ 18 32767) (any_of HT_.out (by kernel_rfl)) ?_
         refine pn_ 15 (some 43) (bt_ 18 65535) (any_of HT_.out (by kernel_rfl)) ?_
         refine pn_ 16 (some 44) (bt_ 18 131071) (any_of HT_.out (by kernel_rfl)) ?_
         refine pu_ 17 (some 45) (bt_ 18 262143) (any_of HT_.out (by kernel_rfl)) ?_
         refine done_ (done_of HT_.out (by kernel_rfl)) ?_
         try go_wp2
         go_roundg k2
         case measure => have := HK1.out; have := HK2.out; omega
         case rel => exact ⟨(wrap64 (x6_2 + 1)), (by first | rfl | (simp; done) | (simp [*]; done)), H', ⟨by have := HK1.out; have := HK2.out; omega⟩, ⟨bk_ ja.out⟩, ⟨bk_ jb.out⟩, ⟨hb_ HB.out⟩⟩
       ·rw [if_neg c20] at H
        exact absurd H (by simp)
      ·rw [if_neg c19] at H
       have c19b0 : decide (x6_2 < (l0_2.length : Int)) = false := decide_eq_false c19
       clear c19
       obtain rfl := Option.some.inj H
       have hnb35 := jJ.out
       have hnc35 := jK.out
       have hcz36_0 : wr.cell? ⟨jc, 0, none⟩ = some (.int .i64 a0_0) := (blk_cell ja.out 0).trans rfl
       have hcz36_1 : wr.cell? ⟨jc, 1, none⟩ = some (.slice A0_1 l0_1.length c0_1) := (blk_cell ja.out 1).trans rfl
       have hcz36_2 : wr.cell? ⟨jc, 2, none⟩ = some (.slice A0_2 l0_2.length c0_2) := (blk_cell ja.out 2).trans rfl
       have hfz36_0 := blk_frozen ja.out 0
       have hfz36_1 := blk_frozen ja.out 1
       have hfz36_2 := blk_frozen ja.out 2
       go_wp2
       go_ret
       exact ⟨by first | rfl | (simp [errW_none, errW_some] <;> rfl) | (simp [*, errW_none, errW_some] <;> rfl), by repeat (first | (with_reducible first | exact HB.out | apply below_alloc | apply pw_below_drewN | apply below_drew1 | refine below_set ?_ jO.out | refine below_set ?_ jP.out) | exact HB.out)⟩

end Go.Proofs.Ytjldpnhlegbjkaa.PA
