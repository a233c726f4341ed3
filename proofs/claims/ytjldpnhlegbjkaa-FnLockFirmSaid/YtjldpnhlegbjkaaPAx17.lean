import Derived.Test.YtjldpnhlegbjkaaPAx0
namespace Go.Proofs.Ytjldpnhlegbjkaa.PA
open Go.RowKit Go.Proofs.YtjldpnhlegbjkaaW.PrintWords Go.Proofs.YtjldpnhlegbjkaaW.PrintLast Go.Proofs.YtjldpnhlegbjkaaW.PrintMore
attribute [local go_sem] max2_int min2_int max_two min_two max_three min_three max_four min_four
set_option linter.unusedVariables false
set_option linter.unusedSimpArgs false

def spec_l11Without.l0 : Nat → List (S45) → Int → Int → List (S45) → Int → Option ((List (S45)))
 | 0, _, _, _, _, _ => none
 | k + 1, x0, x1, x2, x7, x8 => if x8 < (x0.length : Int) then (if 0 ≤ x8 then (if ((rd_T45 x0 x8).f0) = x1 then (if ((rd_T45 x0 x8).f1) > x2 then (if x7.length < 5864062014805 then (spec_l11Without.l0 k x0 x1 x2 (x7 ++ [(⟨(rd_T45 x0 x8).f0, (rd_T45 x0 x8).f1, (rd_T45 x0 x8).f2, (rd_T45 x0 x8).f3⟩ : S45)]) (wrap64 (x8 + 1))) else (none)) else (spec_l11Without.l0 k x0 x1 x2 x7 (wrap64 (x8 + 1)))) else (if x7.length < 5864062014805 then (spec_l11Without.l0 k x0 x1 x2 (x7 ++ [(⟨(rd_T45 x0 x8).f0, (rd_T45 x0 x8).f1, (rd_T45 x0 x8).f2, (rd_T45 x0 x8).f3⟩ : S45)]) (wrap64 (x8 + 1))) else (none))) else (none)) else (some x7)
def spec_l11Without.f (k : Nat) (l0 : List (S45)) (a1 : Int) (a2 : Int) : Option ((List (S45))) := spec_l11Without.l0 k l0 a1 a2 (([] : List (S45))) 0
theorem spec_l11Without.mono_l : ∀ k, (∀ y0 y1 y2 y3 y4, LeO (spec_l11Without.l0 k y0 y1 y2 y3 y4) (spec_l11Without.l0 (k + 1) y0 y1 y2 y3 y4))
 | 0 => fun _ _ _ _ _ r h => by simp [spec_l11Without.l0] at h
 | k + 1 => by
  have ih0 := spec_l11Without.mono_l k
  ·intro y0 y1 y2 y3 y4
   unfold spec_l11Without.l0
   repeat' first
   | (with_reducible exact ih0 _ _ _ _ _)
   | (with_reducible exact LeO.refl _)
   | (with_reducible exact LeO.none _)
   | (with_reducible refine LeO.ite ?_ ?_)
   | (with_reducible refine LeO.bind ?_ (fun _ => ?_))
   | exact ih0 _ _ _ _ _
   | exact LeO.none _
   | refine LeO.ite ?_ ?_
   | refine LeO.bind ?_ (fun _ => ?_)
theorem spec_l11Without.mono : ∀ a0 a1 a2 k, LeO (spec_l11Without.f k a0 a1 a2) (spec_l11Without.f (k + 1) a0 a1 a2) := by
 intro a0 a1 a2 k
 have ih0 := spec_l11Without.mono_l k
 unfold spec_l11Without.f
 repeat' first
  | (with_reducible exact ih0 _ _ _ _ _)
  | (with_reducible exact LeO.refl _)
  | (with_reducible exact LeO.none _)
  | (with_reducible refine LeO.ite ?_ ?_)
  | (with_reducible refine LeO.bind ?_ (fun _ => ?_))
  | exact ih0 _ _ _ _ _
  | exact LeO.none _
  | refine LeO.ite ?_ ?_
  | refine LeO.bind ?_ (fun _ => ?_)
set_option maxHeartbeats 8000000 in
set_option maxRecDepth 100000 in
theorem spec_l11Without.calls (k : Nat) (A0 : Option Addr) (c0 : Nat) (l0 : List (S45)) (a1 : Int) (a2 : Int) (r : List (S45)) (w : World) (hr0 : Kd.C k45 w A0 l0.length l0) (hc0 : l0.length ≤ c0) (h : spec_l11Without.f k l0 a1 a2 = some r) :
 Calls Try.prog 51 #[.slice A0 l0.length c0, .int .i64 a1, .int .i64 a2] w fun e w' => ∃ v0_ : Value, e = .returned (v0_) ∧ Kd.R k45 45 w' w.heap.size (fun _ => True) v0_ r ∧ Below w.heap.size w w' := by
 have hu45 := Try.underlying45
 have HR0 := Aside0.mk hr0
 have HC0 := Aside0.mk hc0
 clear hr0 hc0
 have HB := Aside0.mk (Below.refl w.heap.size w)
 have H : (spec_l11Without.l0 k l0 a1 a2 (([] : List (S45))) 0) = some r := h
 clear h
 obtain ⟨jI, jp⟩ : ∃ y_ : List (S45), y_ = (([] : List (S45))) := ⟨_, rfl⟩
 replace H : (spec_l11Without.l0 k l0 a1 a2 jI 0) = some r := by first | (rw [jp]; with_reducible exact H) | (have H2_ := (Option.bind_some _ _).symm.trans H; rw [jp]; with_reducible exact H2_) | (have H2_ := (Option.bind_some _ _).symm.trans H; with_reducible exact H2_) | with_reducible exact H | (rw [jp]; exact H) | exact H
 have jJ := Aside0.mk jp
 clear jp
 have H' := Aside0.mk H
 clear H
 go_enter Try.func51, Try.ntmps51
 go_wp2_with (first | ((with_reducible refine gate_dst (N := 9) rfl ?_); refine Kd.R_lit k45 _ 45 ?hg (N := 9) ?hd (xs := ([] : List (S45))) (inner := []) (ok := fun _ => True) (okp := fun _ => True) ?hr ?hp (fun _ hk => hk) trivial (Below.refl _ _) (Nat.le_refl _) (by simp) ?_; (case hd => rfl); (case hg => rfl); (case hr => first | (go_simp; done) | (go_simp; rfl)); (case hp => exact (Reps.none _ _)); intro jU w4 ho5 hb hg_ hnew_; clear hg_ hnew_; (first | rw [← jJ.out] at ho5 | (simp only [Int.reduceToNat] at ho5; rw [← jJ.out] at ho5)); have n0_ := Aside0.mk (Kd.R_lower ho5 (below_size (hb_ HB.out))); have n1_ := Aside0.mk (below_step (hb_ HB.out) hb); clear HB; have jK := n0_; have HB := n1_; clear n0_ n1_; clear hb ho5))
 go_loopg [7, 8] k (fun kq v7 v8 w' => ∃ (x7_1 : List (S45)) (x8_1 : Int), v8 = .int .i64 x8_1 ∧ Aside0 (spec_l11Without.l0 kq l0 a1 a2 x7_1 x8_1 = some r) ∧ Aside0 (kq ≤ k) ∧ Aside0 (Kd.R k45 45 w' w.heap.size (fun _ => True) v7 x7_1) ∧ Aside0 (Below w.heap.size w w'))
 case atStart => exact ⟨(jI), (0), (by first | rfl | (simp; done) | (simp [*]; done)), H', ⟨Nat.le_refl _⟩, ⟨kr_ jK.out⟩, ⟨hb_ HB.out⟩⟩
 case round =>
  clear H'
  try clear p2
  try clear c5
  obtain ⟨x7_1, x8_1, rfl, HA, HK1, HO_7, HB⟩ := hrel
  cases gk with
  | zero => exact absurd HA.out (by simp [spec_l11Without.l0])
  | succ k1 =>
   have H := HA.out
   clear HA
   simp only [spec_l11Without.l0] at H
   by_cases c6 : x8_1 < (l0.length : Int)
   ·rw [if_pos c6] at H
    have c6b0 : decide (x8_1 < (l0.length : Int)) = true := decide_eq_true c6
    clear c6
    by_cases c7 : 0 ≤ x8_1
    ·rw [if_pos c7] at H
     have c7b0 : decide (0 ≤ x8_1) = true := decide_eq_true c7
     clear c7
     by_cases c8 : ((rd_T45 l0 x8_1).f0) = a1
     ·rw [if_pos c8] at H
      have c8b0 : (((rd_T45 l0 x8_1).f0) == a1) = true := beq_iff_eq.mpr c8
      have c8b1 : (((rd_T45 l0 x8_1).f0) != a1) = false := bne_eq_false_iff_eq.mpr c8
      clear c8
      by_cases c9 : ((rd_T45 l0 x8_1).f1) > a2
      ·rw [if_pos c9] at H
       have c9b0 : decide (a2 < ((rd_T45 l0 x8_1).f1)) = true := decide_eq_true c9
       clear c9
       by_cases c10 : x7_1.length < 5864062014805
       ·rw [if_pos c10] at H
        have LMc10 := Aside0.mk c10
        clear c10
        obtain ⟨jG, jn⟩ : ∃ y_ : List (S45), y_ = (x7_1 ++ [(⟨(rd_T45 l0 x8_1).f0, (rd_T45 l0 x8_1).f1, (rd_T45 l0 x8_1).f2, (rd_T45 l0 x8_1).f3⟩ : S45)]) := ⟨_, rfl⟩
        replace H : (spec_l11Without.l0 k1 l0 a1 a2 jG (wrap64 (x8_1 + 1))) = some r := by first | (rw [jn]; with_reducible exact H) | (have H2_ := (Option.bind_some _ _).symm.trans H; rw [jn]; with_reducible exact H2_) | (have H2_ := (Option.bind_some _ _).symm.trans H; with_reducible exact H2_) | with_reducible exact H | (rw [jn]; exact H) | exact H
        have jN := Aside0.mk jn
        clear jn
        have H' := Aside0.mk H
        clear H
        have jd : 0 ≤ (x8_1 : Int) := of_decide_eq_true (by first | (with_reducible assumption) | assumption)
        have je : x8_1 < (l0.length : Int) := of_decide_eq_true (by first | (with_reducible assumption) | assumption)
        obtain ⟨jm, jo, jc, jb, ja, jf⟩ := at_T45 HR0.out x8_1 jd je
        cases jo
        replace jc := (HB.out.cell (World.block_lt_of_cell? w _ jc)).trans jc
        replace jb := (HB.out.cell (World.block_lt_of_cell? w _ jb)).trans jb
        replace ja := (HB.out.cell (World.block_lt_of_cell? w _ ja)).trans ja
        replace jf := (HB.out.cell (World.block_lt_of_cell? w _ jf)).trans jf
        replace jd := eq_true jd
        replace je := eq_true je
        have jg : 0 ≤ (x8_1 : Int) := of_decide_eq_true (by first | (with_reducible assumption) | assumption)
        have jk : x8_1 < (l0.length : Int) := of_decide_eq_true (by first | (with_reducible assumption) | assumption)
        obtain ⟨js, jz, jj, jl, jh, ji⟩ := at_T45 HR0.out x8_1 jg jk
        obtain rfl : jm = js := (by injection jz)
        replace jj := (HB.out.cell (World.block_lt_of_cell? w _ jj)).trans jj
        replace jl := (HB.out.cell (World.block_lt_of_cell? w _ jl)).trans jl
        replace jh := (HB.out.cell (World.block_lt_of_cell? w _ jh)).trans jh
        replace ji := (HB.out.cell (World.block_lt_of_cell? w _ ji)).trans ji
        replace jg := eq_true jg
        replace jk := eq_true jk
        have jv : 0 ≤ (x8_1 : Int) := of_decide_eq_true (by first | (with_reducible assumption) | assumption)
        have jy : x8_1 < (l0.length : Int) := of_decide_eq_true (by first | (with_reducible assumption) | assumption)
        obtain ⟨jO, jR, jB, jx, jr, jD⟩ := at_T45 HR0.out x8_1 jv jy
        obtain rfl : jm = jO := (by injection jR)
        replace jB := (HB.out.cell (World.block_lt_of_cell? w _ jB)).trans jB
        replace jx := (HB.out.cell (World.block_lt_of_cell? w _ jx)).trans jx
        replace jr := (HB.out.cell (World.block_lt_of_cell? w _ jr)).trans jr
        replace jD := (HB.out.cell (World.block_lt_of_cell? w _ jD)).trans jD
        replace jv := eq_true jv
        replace jy := eq_true jy
        go_wp2_with (first | ((with_reducible refine gate_builtin (b := .append) (xs := #[.tmp 32, .tmp 37]) rfl ?_); at_builtin; refine Kd.R_append k45 (w0 := w) w.heap.size rfl (.tmp 32) (.tmp 37) 27 45 (.agg #[(.int .i64 0), (.int .i64 0), (.bool false), (.bool false)]) 24 rfl Try.underlying27 info45 rfl (by decide) (by omega) u7 x7_1 (⟨(rd_T45 l0 x8_1).f0, (rd_T45 l0 x8_1).f1, (rd_T45 l0 x8_1).f2, (rd_T45 l0 x8_1).f3⟩ : S45) [.int .i64 ((rd_T45 l0 x8_1).f0), .int .i64 ((rd_T45 l0 x8_1).f1), .bool ((rd_T45 l0 x8_1).f2), .bool ((rd_T45 l0 x8_1).f3)] (fun _ => True) (fun _ => False) rfl rfl ?aP (fun _ hk => hk.elim) ?aF ?aO ?aB ?aS ?aL ?_; (case aP => exact k45_mkM _ _ _ (⟨(rd_T45 l0 x8_1).f0, (rd_T45 l0 x8_1).f1, (rd_T45 l0 x8_1).f2, (rd_T45 l0 x8_1).f3⟩ : S45)); (case aB => exact (hb_ HB.out)); (case aF => exact (fun _ _ => trivial)); (case aO => exact (kr_ HO_7.out)); (case aS => exact (below_size (hb_ HB.out))); (case aL => have := LMc10.out; omega); intro jT w11 ho hb hg hat; rw [← jN.out] at ho; have n0_ := Aside0.mk (hb); have n1_ := Aside0.mk (ho); clear HB; clear HO_7; have HB := n0_; have jP := n1_; clear n0_ n1_; clear ho hb hg hat))
        go_roundg k1
        case measure => have := HK1.out; omega
        case rel => exact ⟨(jG), (wrap64 (x8_1 + 1)), (by first | rfl | (simp; done) | (simp [*]; done)), H', ⟨by have := HK1.out; omega⟩, ⟨kr_ jP.out⟩, ⟨hb_ HB.out⟩⟩
       ·rw [if_neg c10] at H
        exact absurd H (by simp)
      ·rw [if_neg c9] at H
       have c9b0 : decide (a2 < ((rd_T45 l0 x8_1).f1)) = false := decide_eq_false c9
       clear c9
       have H' := Aside0.mk H
       clear H
       have jd : 0 ≤ (x8_1 : Int) := of_decide_eq_true (by first | (with_reducible assumption) | assumption)
       have je : x8_1 < (l0.length : Int) := of_decide_eq_true (by first | (with_reducible assumption) | assumption)
       obtain ⟨jm, jo, jc, jb, ja, jf⟩ := at_T45 HR0.out x8_1 jd je
       cases jo
       replace jc := (HB.out.cell (World.block_lt_of_cell? w _ jc)).trans jc
       replace jb := (HB.out.cell (World.block_lt_of_cell? w _ jb)).trans jb
       replace ja := (HB.out.cell (World.block_lt_of_cell? w _ ja)).trans ja
       replace jf := (HB.out.cell (World.block_lt_of_cell? w _ jf)).trans jf
       replace jd := eq_true jd
       replace je := eq_true je
       have jg : 0 ≤ (x8_1 : Int) := of_decide_eq_true (by first | (with_reducible assumption) | assumption)
       have jk : x8_1 < (l0.length : Int) := of_decide_eq_true (by first | (with_reducible assumption) | assumption)
       obtain ⟨js, jz, jj, jl, jh, ji⟩ := at_T45 HR0.out x8_1 jg jk
       obtain rfl : jm = js := (by injection jz)
       replace jj := (HB.out.cell (World.block_lt_of_cell? w _ jj)).trans jj
       replace jl := (HB.out.cell (World.block_lt_of_cell? w _ jl)).trans jl
       replace jh := (HB.out.cell (World.block_lt_of_cell? w _ jh)).trans jh
       replace ji := (HB.out.cell (World.block_lt_of_cell? w _ ji)).trans ji
       replace jg := eq_true jg
       replace jk := eq_true jk
       go_wp2
       go_roundg k1
       case measure => have := HK1.out; omega
       case rel => exact ⟨(x7_1), (wrap64 (x8_1 + 1)), (by first | rfl | (simp; done) | (simp [*]; done)), H', ⟨by have := HK1.out; omega⟩, ⟨kr_ HO_7.out⟩, ⟨hb_ HB.out⟩⟩
     ·rw [if_neg c8] at H
      have c8b0 : (((rd_T45 l0 x8_1).f0) == a1) = false := beq_eq_false_iff_ne.mpr c8
      have c8b1 : (((rd_T45 l0 x8_1).f0) != a1) = true := bne_iff_ne.mpr c8
      by_cases c12 : x7_1.length < 5864062014805
      ·rw [if_pos c12] at H
       have LMc12 := Aside0.mk c12
       clear c12
       obtain ⟨jF, jq⟩ : ∃ y_ : List (S45), y_ = (x7_1 ++ [(⟨(rd_T45 l0 x8_1).f0, (rd_T45 l0 x8_1).f1, (rd_T45 l0 x8_1).f2, (rd_T45 l0 x8_1).f3⟩ : S45)]) := ⟨_, rfl⟩
       replace H : (spec_l11Without.l0 k1 l0 a1 a2 jF (wrap64 (x8_1 + 1))) = some r := by first | (rw [jq]; with_reducible exact H) | (have H2_ := (Option.bind_some _ _).symm.trans H; rw [jq]; with_reducible exact H2_) | (have H2_ := (Option.bind_some _ _).symm.trans H; with_reducible exact H2_) | with_reducible exact H | (rw [jq]; exact H) | exact H
       have jL := Aside0.mk jq
       clear jq
       have H' := Aside0.mk H
       clear H
       have jd : 0 ≤ (x8_1 : Int) := of_decide_eq_true (by first | (with_reducible assumption) | assumption)
       have je : x8_1 < (l0.length : Int) := of_decide_eq_true (by first | (with_reducible assumption) | assumption)
       obtain ⟨jm, jo, jc, jb, ja, jf⟩ := at_T45 HR0.out x8_1 jd je
       cases jo
       replace jc := (HB.out.cell (World.block_lt_of_cell? w _ jc)).trans jc
       replace jb := (HB.out.cell (World.block_lt_of_cell? w _ jb)).trans jb
       replace ja := (HB.out.cell (World.block_lt_of_cell? w _ ja)).trans ja
       replace jf := (HB.out.cell (World.block_lt_of_cell? w _ jf)).trans jf
       replace jd := eq_true jd
       replace je := eq_true je
       have ju : 0 ≤ (x8_1 : Int) := of_decide_eq_true (by first | (with_reducible assumption) | assumption)
       have jw : x8_1 < (l0.length : Int) := of_decide_eq_true (by first | (with_reducible assumption) | assumption)
       obtain ⟨jS, jM, jt, jA, jC, jE⟩ := at_T45 HR0.out x8_1 ju jw
       obtain rfl : jm = jS := (by injection jM)
       replace jt := (HB.out.cell (World.block_lt_of_cell? w _ jt)).trans jt
       replace jA := (HB.out.cell (World.block_lt_of_cell? w _ jA)).trans jA
       replace jC := (HB.out.cell (World.block_lt_of_cell? w _ jC)).trans jC
       replace jE := (HB.out.cell (World.block_lt_of_cell? w _ jE)).trans jE
       replace ju := eq_true ju
       replace jw := eq_true jw
       go_wp2_with (first | ((with_reducible refine gate_builtin (b := .append) (xs := #[.tmp 32, .tmp 37]) rfl ?_); at_builtin; refine Kd.R_append k45 (w0 := w) w.heap.size rfl (.tmp 32) (.tmp 37) 27 45 (.agg #[(.int .i64 0), (.int .i64 0), (.bool false), (.bool false)]) 24 rfl Try.underlying27 info45 rfl (by decide) (by omega) u7 x7_1 (⟨(rd_T45 l0 x8_1).f0, (rd_T45 l0 x8_1).f1, (rd_T45 l0 x8_1).f2, (rd_T45 l0 x8_1).f3⟩ : S45) [.int .i64 ((rd_T45 l0 x8_1).f0), .int .i64 ((rd_T45 l0 x8_1).f1), .bool ((rd_T45 l0 x8_1).f2), .bool ((rd_T45 l0 x8_1).f3)] (fun _ => True) (fun _ => False) rfl rfl ?aP (fun _ hk => hk.elim) ?aF ?aO ?aB ?aS ?aL ?_; (case aP => exact k45_mkM _ _ _ (⟨(rd_T45 l0 x8_1).f0, (rd_T45 l0 x8_1).f1, (rd_T45 l0 x8_1).f2, (rd_T45 l0 x8_1).f3⟩ : S45)); (case aB => exact (hb_ HB.out)); (case aF => exact (fun _ _ => trivial)); (case aO => exact (kr_ HO_7.out)); (case aS => exact (below_size (hb_ HB.out))); (case aL => have := LMc12.out; omega); intro jV w13 ho hb hg hat; rw [← jL.out] at ho; have n0_ := Aside0.mk (hb); have n1_ := Aside0.mk (ho); clear HB; clear HO_7; have HB := n0_; have jQ := n1_; clear n0_ n1_; clear ho hb hg hat))
       go_roundg k1
       case measure => have := HK1.out; omega
       case rel => exact ⟨(jF), (wrap64 (x8_1 + 1)), (by first | rfl | (simp; done) | (simp [*]; done)), H', ⟨by have := HK1.out; omega⟩, ⟨kr_ jQ.out⟩, ⟨hb_ HB.out⟩⟩
      ·rw [if_neg c12] at H
       exact absurd H (by simp)
    ·rw [if_neg c7] at H
     exact absurd H (by simp)
   ·rw [if_neg c6] at H
    have c6b0 : decide (x8_1 < (l0.length : Int)) = false := decide_eq_false c6
    clear c6
    obtain rfl := Option.some.inj H
    go_wp2
    go_ret
    exact ⟨_, by first | rfl | (simp [errW_none, errW_some] <;> rfl) | (simp [*, errW_none, errW_some] <;> rfl), by (with_reducible repeat (first | apply Kd.R_alloc | apply Kd.R_drewN | apply Kd.R_drew)); exact HO_7.out, by repeat (first | (with_reducible first | exact HB.out | apply below_alloc | apply pw_below_drewN | apply below_drew1) | exact HB.out)⟩

end Go.Proofs.Ytjldpnhlegbjkaa.PA
