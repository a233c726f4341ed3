import Derived.Test.YtbjdnfgalopfiaaPDx0
namespace Go.Proofs.Ytbjdnfgalopfiaa.PD
open Go.RowKit Go.Proofs.YtbjdnfgalopfiaaW.PrintWords Go.Proofs.YtbjdnfgalopfiaaW.PrintLast Go.Proofs.YtbjdnfgalopfiaaW.PrintMore
attribute [local go_sem] max2_int min2_int max_two min_two max_three min_three max_four min_four
set_option linter.unusedVariables false
set_option linter.unusedSimpArgs false

mutual
def spec_l1Set.l0 : Nat → List (S68) → Int → Int → List (S68) → Bool → Int → Option ((List (S68)))
 | 0, _, _, _, _, _, _ => none
 | k + 1, x0, x1, x2, x7, x8, x9 => if x9 < (x0.length : Int) then (if x8 = true then (spec_l1Set.j1 k x0 x1 x2 x7 x8 x9 false) else (if 0 ≤ x9 then (spec_l1Set.j1 k x0 x1 x2 x7 x8 x9 (decide (((rd_T68 x0 x9).f0) ≥ x1))) else (none))) else (if x8 = true then (some x7) else (if x7.length < 8796093022208 then (some (x7 ++ [(⟨x1, x2⟩ : S68)])) else (none)))
def spec_l1Set.j1 : Nat → List (S68) → Int → Int → List (S68) → Bool → Int → Bool → Option ((List (S68)))
 | 0, _, _, _, _, _, _, _ => none
 | k + 1, x0, x1, x2, x7, x8, x9, x27 => if x27 = true then (if x7.length < 8796093022208 then ((some (x7 ++ [(⟨x1, x2⟩ : S68)] : List (S68))).bind fun y640008 => (if 0 ≤ x9 then (if x9 < (x0.length : Int) then (if ((rd_T68 x0 x9).f0) = x1 then (spec_l1Set.l0 k x0 x1 x2 y640008 true (wrap64 (x9 + 1))) else (if y640008.length < 8796093022208 then (spec_l1Set.l0 k x0 x1 x2 (y640008 ++ [(⟨(rd_T68 x0 x9).f0, (rd_T68 x0 x9).f1⟩ : S68)]) true (wrap64 (x9 + 1))) else (none))) else (none)) else (none))) else (none)) else (if 0 ≤ x9 then (if x9 < (x0.length : Int) then (if ((rd_T68 x0 x9).f0) = x1 then (spec_l1Set.l0 k x0 x1 x2 x7 x8 (wrap64 (x9 + 1))) else (if x7.length < 8796093022208 then (spec_l1Set.l0 k x0 x1 x2 (x7 ++ [(⟨(rd_T68 x0 x9).f0, (rd_T68 x0 x9).f1⟩ : S68)]) x8 (wrap64 (x9 + 1))) else (none))) else (none)) else (none))
end
def spec_l1Set.f (k : Nat) (l0 : List (S68)) (a1 : Int) (a2 : Int) : Option ((List (S68))) := spec_l1Set.l0 k l0 a1 a2 (([] : List (S68))) false 0
theorem spec_l1Set.mono_l : ∀ k, (∀ y0 y1 y2 y3 y4 y5, LeO (spec_l1Set.l0 k y0 y1 y2 y3 y4 y5) (spec_l1Set.l0 (k + 1) y0 y1 y2 y3 y4 y5)) ∧ (∀ y0 y1 y2 y3 y4 y5 y6, LeO (spec_l1Set.j1 k y0 y1 y2 y3 y4 y5 y6) (spec_l1Set.j1 (k + 1) y0 y1 y2 y3 y4 y5 y6))
 | 0 => ⟨fun _ _ _ _ _ _ r h => by simp [spec_l1Set.l0] at h, fun _ _ _ _ _ _ _ r h => by simp [spec_l1Set.j1] at h⟩
 | k + 1 => by
  obtain ⟨ih0, ih1⟩ := spec_l1Set.mono_l k
  refine ⟨?_, ?_⟩
  ·intro y0 y1 y2 y3 y4 y5
   unfold spec_l1Set.l0
   repeat' first
   | (with_reducible exact ih0 _ _ _ _ _ _)
   | (with_reducible exact ih1 _ _ _ _ _ _ _)
   | (with_reducible exact LeO.refl _)
   | (with_reducible exact LeO.none _)
   | (with_reducible refine LeO.ite ?_ ?_)
   | (with_reducible refine LeO.bind ?_ (fun _ => ?_))
   | exact ih0 _ _ _ _ _ _
   | exact ih1 _ _ _ _ _ _ _
   | exact LeO.none _
   | refine LeO.ite ?_ ?_
   | refine LeO.bind ?_ (fun _ => ?_)
  ·intro y0 y1 y2 y3 y4 y5 y6
   unfold spec_l1Set.j1
   repeat' first
   | (with_reducible exact ih0 _ _ _ _ _ _)
   | (with_reducible exact ih1 _ _ _ _ _ _ _)
   | (with_reducible exact LeO.refl _)
   | (with_reducible exact LeO.none _)
   | (with_reducible refine LeO.ite ?_ ?_)
   | (with_reducible refine LeO.bind ?_ (fun _ => ?_))
   | exact ih0 _ _ _ _ _ _
   | exact ih1 _ _ _ _ _ _ _
   | exact LeO.none _
   | refine LeO.ite ?_ ?_
   | refine LeO.bind ?_ (fun _ => ?_)
theorem spec_l1Set.mono : ∀ a0 a1 a2 k, LeO (spec_l1Set.f k a0 a1 a2) (spec_l1Set.f (k + 1) a0 a1 a2) := by
 intro a0 a1 a2 k
 obtain ⟨ih0, ih1⟩ := spec_l1Set.mono_l k
 unfold spec_l1Set.f
 repeat' first
  | (with_reducible exact ih0 _ _ _ _ _ _)
  | (with_reducible exact ih1 _ _ _ _ _ _ _)
  | (with_reducible exact LeO.refl _)
  | (with_reducible exact LeO.none _)
  | (with_reducible refine LeO.ite ?_ ?_)
  | (with_reducible refine LeO.bind ?_ (fun _ => ?_))
  | exact ih0 _ _ _ _ _ _
  | exact ih1 _ _ _ _ _ _ _
  | exact LeO.none _
  | refine LeO.ite ?_ ?_
  | refine LeO.bind ?_ (fun _ => ?_)
set_option maxHeartbeats 8000000 in
set_option maxRecDepth 100000 in
theorem spec_l1Set.calls (k : Nat) (A0 : Option Addr) (c0 : Nat) (l0 : List (S68)) (a1 : Int) (a2 : Int) (r : List (S68)) (w : World) (hr0 : Kd.C k68 w A0 l0.length l0) (hc0 : l0.length ≤ c0) (h : spec_l1Set.f k l0 a1 a2 = some r) :
 Calls Try.prog 63 #[.slice A0 l0.length c0, .int .i64 a1, .int .i64 a2] w fun e w' => ∃ v0_ : Value, e = .returned (v0_) ∧ Kd.R k68 68 w' w.heap.size (fun _ => True) v0_ r ∧ Below w.heap.size w w' := by
 have hu68 := Try.underlying68
 have HR0 := Aside0.mk hr0
 have HC0 := Aside0.mk hc0
 clear hr0 hc0
 have HB := Aside0.mk (Below.refl w.heap.size w)
 have H : (spec_l1Set.l0 k l0 a1 a2 (([] : List (S68))) false 0) = some r := h
 clear h
 obtain ⟨jD, jj⟩ : ∃ y_ : List (S68), y_ = (([] : List (S68))) := ⟨_, rfl⟩
 replace H : (spec_l1Set.l0 k l0 a1 a2 jD false 0) = some r := by first | (rw [jj]; with_reducible exact H) | (have H2_ := (Option.bind_some _ _).symm.trans H; rw [jj]; with_reducible exact H2_) | (have H2_ := (Option.bind_some _ _).symm.trans H; with_reducible exact H2_) | with_reducible exact H | (rw [jj]; exact H) | exact H
 have jL := Aside0.mk jj
 clear jj
 have H' := Aside0.mk H
 clear H
 go_enter Try.func63, Try.ntmps63
 go_wp2_with (first | ((with_reducible refine gate_dst (N := 10) rfl ?_); refine Kd.R_lit k68 _ 68 ?hg (N := 10) ?hd (xs := ([] : List (S68))) (inner := []) (ok := fun _ => True) (okp := fun _ => True) ?hr ?hp (fun _ hk => hk) trivial (Below.refl _ _) (Nat.le_refl _) (by simp) ?_; (case hd => rfl); (case hg => rfl); (case hr => first | (go_simp; done) | (go_simp; rfl)); (case hp => exact (Reps.none _ _)); intro jZ w4 ho5 hb hg_ hnew_; clear hg_ hnew_; (first | rw [← jL.out] at ho5 | (simp only [Int.reduceToNat] at ho5; rw [← jL.out] at ho5)); have n0_ := Aside0.mk (Kd.R_lower ho5 (below_size (hb_ HB.out))); have n1_ := Aside0.mk (below_step (hb_ HB.out) hb); clear HB; have jT := n0_; have HB := n1_; clear n0_ n1_; clear hb ho5))
 go_loopg [7, 8, 9] k (fun kq v7 v8 v9 w' => ∃ (x7_1 : List (S68)) (x8_1 : Bool) (x9_1 : Int), v8 = .bool x8_1 ∧ v9 = .int .i64 x9_1 ∧ Aside0 (spec_l1Set.l0 kq l0 a1 a2 x7_1 x8_1 x9_1 = some r) ∧ Aside0 (kq ≤ k) ∧ Aside0 (Kd.R k68 68 w' w.heap.size (fun _ => True) v7 x7_1) ∧ Aside0 (Below w.heap.size w w'))
 case atStart => exact ⟨(jD), (false), (0), (by first | rfl | (simp; done) | (simp [*]; done)), (by first | rfl | (simp; done) | (simp [*]; done)), H', ⟨Nat.le_refl _⟩, ⟨kr_ jT.out⟩, ⟨hb_ HB.out⟩⟩
 case round =>
  clear H'
  try clear p2
  obtain ⟨x7_1, x8_1, x9_1, rfl, rfl, HA, HK1, HO_7, HB⟩ := hrel
  cases gk with
  | zero => exact absurd HA.out (by simp [spec_l1Set.l0])
  | succ k1 =>
   have H := HA.out
   clear HA
   simp only [spec_l1Set.l0] at H
   by_cases c6 : x9_1 < (l0.length : Int)
   ·rw [if_pos c6] at H
    have c6b0 : decide (x9_1 < (l0.length : Int)) = true := decide_eq_true c6
    clear c6
    have HC7 := Aside0.mk H
    clear H
    go_upto_region 6 with (fail)
    go_cut [27] (fun v27 wc => ∃ (kq : Nat) (x27_6 : Bool), v27 = .bool x27_6 ∧ Aside0 (spec_l1Set.j1 kq l0 a1 a2 x7_1 x8_1 x9_1 x27_6 = some r) ∧ Aside0 (kq ≤ k1) ∧ Aside0 (Kd.R k68 68 wc w.heap.size (fun _ => True) u7 x7_1) ∧ Aside0 (Below w.heap.size w wc))
    case first =>
     have H := HC7.out
     clear HC7
     by_cases c8 : x8_1 = true
     ·subst c8
      have H1 : (spec_l1Set.j1 k1 l0 a1 a2 x7_1 true x9_1 false) = some r := by rw [if_pos rfl] at H; exact H
      clear H
      have H := H1
      clear H1
      have H' := Aside0.mk H
      clear H
      go_wp2
      go_meet
      case rel => exact ⟨_, (false), (by first | rfl | (simp; done) | (simp [*]; done)), H', ⟨by have := HK1.out; first | omega | exact Nat.le_refl _⟩, ⟨kr_ HO_7.out⟩, ⟨hb_ HB.out⟩⟩
     ·replace c8 := Bool.eq_false_iff.mpr c8
      subst c8
      have H1 : (if 0 ≤ x9_1 then (spec_l1Set.j1 k1 l0 a1 a2 x7_1 false x9_1 (decide (((rd_T68 l0 x9_1).f0) ≥ a1))) else (none)) = some r := by rw [if_neg (show ¬ (false = true) by decide)] at H; exact H
      clear H
      have H := H1
      clear H1
      by_cases c9 : 0 ≤ x9_1
      ·rw [if_pos c9] at H
       have c9b0 : decide (0 ≤ x9_1) = true := decide_eq_true c9
       clear c9
       (first | rw [c9b0] | (simp only [i64_w, i32_w]; rw [c9b0]) | skip)
       have H' := Aside0.mk H
       clear H
       have js : 0 ≤ (x9_1 : Int) := of_decide_eq_true (by first | (with_reducible assumption) | assumption)
       have jq : x9_1 < (l0.length : Int) := of_decide_eq_true (by first | (with_reducible assumption) | assumption)
       obtain ⟨jaa, jP, jp, jo⟩ := at_T68 HR0.out x9_1 js jq
       cases jP
       replace jp := (HB.out.cell (World.block_lt_of_cell? w _ jp)).trans jp
       replace jo := (HB.out.cell (World.block_lt_of_cell? w _ jo)).trans jo
       replace js := eq_true js
       replace jq := eq_true jq
       go_wp2
       go_meet
       case rel => exact ⟨_, (decide (((rd_T68 l0 x9_1).f0) ≥ a1)), (by first | rfl | (simp; done) | (simp [*]; done)), H', ⟨by have := HK1.out; first | omega | exact Nat.le_refl _⟩, ⟨kr_ HO_7.out⟩, ⟨hb_ HB.out⟩⟩
      ·rw [if_neg c9] at H
       exact absurd H (by simp)
    case rest =>
     clear HC7
     try clear p2
     try clear c6
     try clear c6b0
     try clear p6
     try clear q6
     try clear hx6
     try clear c8
     try clear c9
     try clear c9b0
     try clear jp
     try clear jo
     try clear p2
     try clear js
     try clear jq
     obtain ⟨kq, x27_6, rfl, HA, HJ6, HO_7, HB⟩ := hcut
     cases kq with
     | zero => exact absurd HA.out (by simp [spec_l1Set.j1])
     | succ kj6 =>
      have H := HA.out
      clear HA
      simp only [spec_l1Set.j1] at H
      by_cases c10 : x27_6 = true
      ·subst c10
       have H1 : (if x7_1.length < 8796093022208 then ((some (x7_1 ++ [(⟨a1, a2⟩ : S68)] : List (S68))).bind fun ja => (if 0 ≤ x9_1 then (if x9_1 < (l0.length : Int) then (if ((rd_T68 l0 x9_1).f0) = a1 then (spec_l1Set.l0 kj6 l0 a1 a2 ja true (wrap64 (x9_1 + 1))) else (if ja.length < 8796093022208 then (spec_l1Set.l0 kj6 l0 a1 a2 (ja ++ [(⟨(rd_T68 l0 x9_1).f0, (rd_T68 l0 x9_1).f1⟩ : S68)]) true (wrap64 (x9_1 + 1))) else (none))) else (none)) else (none))) else (none)) = some r := by rw [if_pos rfl] at H; exact H
       clear H
       have H := H1
       clear H1
       by_cases c11 : x7_1.length < 8796093022208
       ·rw [if_pos c11] at H
        have LMc11 := Aside0.mk c11
        clear c11
        obtain ⟨ja, jk⟩ : ∃ y_ : List (S68), y_ = (x7_1 ++ [(⟨a1, a2⟩ : S68)]) := ⟨_, rfl⟩
        replace H : (if 0 ≤ x9_1 then (if x9_1 < (l0.length : Int) then (if ((rd_T68 l0 x9_1).f0) = a1 then (spec_l1Set.l0 kj6 l0 a1 a2 ja true (wrap64 (x9_1 + 1))) else (if ja.length < 8796093022208 then (spec_l1Set.l0 kj6 l0 a1 a2 (ja ++ [(⟨(rd_T68 l0 x9_1).f0, (rd_T68 l0 x9_1).f1⟩ : S68)]) true (wrap64 (x9_1 + 1))) else (none))) else (none)) else (none)) = some r := by first | (rw [jk]; with_reducible exact H) | (have H2_ := (Option.bind_some _ _).symm.trans H; rw [jk]; with_reducible exact H2_) | (have H2_ := (Option.bind_some _ _).symm.trans H; with_reducible exact H2_) | with_reducible exact H | (rw [jk]; exact H) | exact H
        have jI := Aside0.mk jk
        clear jk
        by_cases c12 : 0 ≤ x9_1
        ·rw [if_pos c12] at H
         have c12b0 : decide (0 ≤ x9_1) = true := decide_eq_true c12
         clear c12
         by_cases c13 : x9_1 < (l0.length : Int)
         ·rw [if_pos c13] at H
          have c13b0 : decide (x9_1 < (l0.length : Int)) = true := decide_eq_true c13
          clear c13
          by_cases c14 : ((rd_T68 l0 x9_1).f0) = a1
          ·rw [if_pos c14] at H
           have c14b0 : (((rd_T68 l0 x9_1).f0) == a1) = true := beq_iff_eq.mpr c14
           have c14b1 : (((rd_T68 l0 x9_1).f0) != a1) = false := bne_eq_false_iff_eq.mpr c14
           clear c14
           have H' := Aside0.mk H
           clear H
           go_wp2_with (first | ((with_reducible refine gate_builtin (b := .append) (xs := #[.tmp 28, .tmp 32]) rfl ?_); at_builtin; refine Kd.R_append k68 (w0 := w) w.heap.size rfl (.tmp 28) (.tmp 32) 30 68 (.agg #[(.int .i64 0), (.int .i64 0)]) 16 rfl Try.underlying30 info68 rfl (by decide) (by omega) u7 x7_1 (⟨a1, a2⟩ : S68) [.int .i64 a1, .int .i64 a2] (fun _ => True) (fun _ => False) rfl rfl ?aP (fun _ hk => hk.elim) ?aF ?aO ?aB ?aS ?aL ?_; (case aP => exact k68_mkM _ _ _ (⟨a1, a2⟩ : S68)); (case aB => exact (hb_ HB.out)); (case aF => exact (fun _ _ => trivial)); (case aO => exact (kr_ HO_7.out)); (case aS => exact (below_size (hb_ HB.out))); (case aL => have := LMc11.out; omega); intro jE w15 ho hb hg hat; rw [← jI.out] at ho; have n0_ := Aside0.mk (hb); have n1_ := Aside0.mk (ho); clear HB; clear HO_7; have HB := n0_; have jr := n1_; clear n0_ n1_; clear ho hb hg hat; have jc : 0 ≤ (x9_1 : Int) := of_decide_eq_true (by first | (with_reducible assumption) | assumption); have je : x9_1 < (l0.length : Int) := of_decide_eq_true (by first | (with_reducible assumption) | assumption); obtain ⟨jG, jC, jb, jg⟩ := at_T68 HR0.out x9_1 jc je; cases jC; replace jb := (HB.out.cell (World.block_lt_of_cell? w _ jb)).trans jb; replace jg := (HB.out.cell (World.block_lt_of_cell? w _ jg)).trans jg; replace jc := eq_true jc; replace je := eq_true je))
           go_roundg kj6
           case measure => have := HK1.out; have := HJ6.out; omega
           case rel => exact ⟨(ja), (true), (wrap64 (x9_1 + 1)), (by first | rfl | (simp; done) | (simp [*]; done)), (by first | rfl | (simp; done) | (simp [*]; done)), H', ⟨by have := HK1.out; have := HJ6.out; omega⟩, ⟨kr_ jr.out⟩, ⟨hb_ HB.out⟩⟩
          ·rw [if_neg c14] at H
           have c14b0 : (((rd_T68 l0 x9_1).f0) == a1) = false := beq_eq_false_iff_ne.mpr c14
           have c14b1 : (((rd_T68 l0 x9_1).f0) != a1) = true := bne_iff_ne.mpr c14
           by_cases c16 : ja.length < 8796093022208
           ·rw [if_pos c16] at H
            have LMc16 := Aside0.mk c16
            clear c16
            obtain ⟨jF, jn⟩ : ∃ y_ : List (S68), y_ = (ja ++ [(⟨(rd_T68 l0 x9_1).f0, (rd_T68 l0 x9_1).f1⟩ : S68)]) := ⟨_, rfl⟩
            replace H : (spec_l1Set.l0 kj6 l0 a1 a2 jF true (wrap64 (x9_1 + 1))) = some r := by first | (rw [jn]; with_reducible exact H) | (have H2_ := (Option.bind_some _ _).symm.trans H; rw [jn]; with_reducible exact H2_) | (have H2_ := (Option.bind_some _ _).symm.trans H; with_reducible exact H2_) | with_reducible exact H | (rw [jn]; exact H) | exact H
            have jR := Aside0.mk jn
            clear jn
            have H' := Aside0.mk H
            clear H
            go_wp2_with (first | ((with_reducible refine gate_builtin (b := .append) (xs := #[.tmp 28, .tmp 32]) rfl ?_); at_builtin; refine Kd.R_append k68 (w0 := w) w.heap.size rfl (.tmp 28) (.tmp 32) 30 68 (.agg #[(.int .i64 0), (.int .i64 0)]) 16 rfl Try.underlying30 info68 rfl (by decide) (by omega) u7 x7_1 (⟨a1, a2⟩ : S68) [.int .i64 a1, .int .i64 a2] (fun _ => True) (fun _ => False) rfl rfl ?aP (fun _ hk => hk.elim) ?aF ?aO ?aB ?aS ?aL ?_; (case aP => exact k68_mkM _ _ _ (⟨a1, a2⟩ : S68)); (case aB => exact (hb_ HB.out)); (case aF => exact (fun _ _ => trivial)); (case aO => exact (kr_ HO_7.out)); (case aS => exact (below_size (hb_ HB.out))); (case aL => have := LMc11.out; omega); intro jE w17 ho hb hg hat; rw [← jI.out] at ho; have n0_ := Aside0.mk (hb); have n1_ := Aside0.mk (ho); clear HB; clear HO_7; have HB := n0_; have jr := n1_; clear n0_ n1_; clear ho hb hg hat; have jc : 0 ≤ (x9_1 : Int) := of_decide_eq_true (by first | (with_reducible assumption) | assumption); have je : x9_1 < (l0.length : Int) := of_decide_eq_true (by first | (with_reducible assumption) | assumption); obtain ⟨jG, jC, jb, jg⟩ := at_T68 HR0.out x9_1 jc je; cases jC; replace jb := (HB.out.cell (World.block_lt_of_cell? w _ jb)).trans jb; replace jg := (HB.out.cell (World.block_lt_of_cell? w _ jg)).trans jg; replace jc := eq_true jc; replace je := eq_true je; have jv : 0 ≤ (x9_1 : Int) := of_decide_eq_true (by first | (with_reducible assumption) | assumption); have jy : x9_1 < (l0.length : Int) := of_decide_eq_true (by first | (with_reducible assumption) | assumption); obtain ⟨jM, jN, ju, jw⟩ := at_T68 HR0.out x9_1 jv jy; obtain rfl : jG = jM := (by injection jN); replace ju := (HB.out.cell (World.block_lt_of_cell? w _ ju)).trans ju; replace jw := (HB.out.cell (World.block_lt_of_cell? w _ jw)).trans jw; replace jv := eq_true jv; replace jy := eq_true jy) | ((with_reducible refine gate_builtin (b := .append) (xs := #[.tmp 41, .tmp 46]) rfl ?_); at_builtin; refine Kd.R_append k68 (w0 := w) w.heap.size rfl (.tmp 41) (.tmp 46) 30 68 (.agg #[(.int .i64 0), (.int .i64 0)]) 16 rfl Try.underlying30 info68 rfl (by decide) (by omega) jE ja (⟨(rd_T68 l0 x9_1).f0, (rd_T68 l0 x9_1).f1⟩ : S68) [.int .i64 ((rd_T68 l0 x9_1).f0), .int .i64 ((rd_T68 l0 x9_1).f1)] (fun _ => True) (fun _ => False) rfl rfl ?aP (fun _ hk => hk.elim) ?aF ?aO ?aB ?aS ?aL ?_; (case aP => exact k68_mkM _ _ _ (⟨(rd_T68 l0 x9_1).f0, (rd_T68 l0 x9_1).f1⟩ : S68)); (case aB => exact (hb_ HB.out)); (case aF => exact (fun _ _ => trivial)); (case aO => exact (kr_ jr.out)); (case aS => exact (below_size (hb_ HB.out))); (case aL => have := LMc16.out; omega); intro jac w18 ho hb hg hat; rw [← jR.out] at ho; have n0_ := Aside0.mk (hb); have n1_ := Aside0.mk (ho); clear HB; clear jr; have HB := n0_; have jS := n1_; clear n0_ n1_; clear ho hb hg hat))
            go_roundg kj6
            case measure => have := HK1.out; have := HJ6.out; omega
            case rel => exact ⟨(jF), (true), (wrap64 (x9_1 + 1)), (by first | rfl | (simp; done) | (simp [*]; done)), (by first | rfl | (simp; done) | (simp [*]; done)), H', ⟨by have := HK1.out; have := HJ6.out; omega⟩, ⟨kr_ jS.out⟩, ⟨hb_ HB.out⟩⟩
           ·rw [if_neg c16] at H
            exact absurd H (by simp)
         ·rw [if_neg c13] at H
          exact absurd H (by simp)
        ·rw [if_neg c12] at H
         exact absurd H (by simp)
       ·rw [if_neg c11] at H
        exact absurd H (by simp)
      ·replace c10 := Bool.eq_false_iff.mpr c10
       subst c10
       have H1 : (if 0 ≤ x9_1 then (if x9_1 < (l0.length : Int) then (if ((rd_T68 l0 x9_1).f0) = a1 then (spec_l1Set.l0 kj6 l0 a1 a2 x7_1 x8_1 (wrap64 (x9_1 + 1))) else (if x7_1.length < 8796093022208 then (spec_l1Set.l0 kj6 l0 a1 a2 (x7_1 ++ [(⟨(rd_T68 l0 x9_1).f0, (rd_T68 l0 x9_1).f1⟩ : S68)]) x8_1 (wrap64 (x9_1 + 1))) else (none))) else (none)) else (none)) = some r := by rw [if_neg (show ¬ (false = true) by decide)] at H; exact H
       clear H
       have H := H1
       clear H1
       by_cases c19 : 0 ≤ x9_1
       ·rw [if_pos c19] at H
        have c19b0 : decide (0 ≤ x9_1) = true := decide_eq_true c19
        clear c19
        by_cases c20 : x9_1 < (l0.length : Int)
        ·rw [if_pos c20] at H
         have c20b0 : decide (x9_1 < (l0.length : Int)) = true := decide_eq_true c20
         clear c20
         by_cases c21 : ((rd_T68 l0 x9_1).f0) = a1
         ·rw [if_pos c21] at H
          have c21b0 : (((rd_T68 l0 x9_1).f0) == a1) = true := beq_iff_eq.mpr c21
          have c21b1 : (((rd_T68 l0 x9_1).f0) != a1) = false := bne_eq_false_iff_eq.mpr c21
          clear c21
          have H' := Aside0.mk H
          clear H
          have jf : 0 ≤ (x9_1 : Int) := of_decide_eq_true (by first | (with_reducible assumption) | assumption)
          have jd : x9_1 < (l0.length : Int) := of_decide_eq_true (by first | (with_reducible assumption) | assumption)
          obtain ⟨jK, jx, jh, ji⟩ := at_T68 HR0.out x9_1 jf jd
          cases jx
          replace jh := (HB.out.cell (World.block_lt_of_cell? w _ jh)).trans jh
          replace ji := (HB.out.cell (World.block_lt_of_cell? w _ ji)).trans ji
          replace jf := eq_true jf
          replace jd := eq_true jd
          go_wp2
          go_roundg kj6
          case measure => have := HK1.out; have := HJ6.out; omega
          case rel => exact ⟨(x7_1), (x8_1), (wrap64 (x9_1 + 1)), (by first | rfl | (simp; done) | (simp [*]; done)), (by first | rfl | (simp; done) | (simp [*]; done)), H', ⟨by have := HK1.out; have := HJ6.out; omega⟩, ⟨kr_ HO_7.out⟩, ⟨hb_ HB.out⟩⟩
         ·rw [if_neg c21] at H
          have c21b0 : (((rd_T68 l0 x9_1).f0) == a1) = false := beq_eq_false_iff_ne.mpr c21
          have c21b1 : (((rd_T68 l0 x9_1).f0) != a1) = true := bne_iff_ne.mpr c21
          by_cases c22 : x7_1.length < 8796093022208
          ·rw [if_pos c22] at H
           have LMc22 := Aside0.mk c22
           clear c22
           obtain ⟨jJ, jm⟩ : ∃ y_ : List (S68), y_ = (x7_1 ++ [(⟨(rd_T68 l0 x9_1).f0, (rd_T68 l0 x9_1).f1⟩ : S68)]) := ⟨_, rfl⟩
           replace H : (spec_l1Set.l0 kj6 l0 a1 a2 jJ x8_1 (wrap64 (x9_1 + 1))) = some r := by first | (rw [jm]; with_reducible exact H) | (have H2_ := (Option.bind_some _ _).symm.trans H; rw [jm]; with_reducible exact H2_) | (have H2_ := (Option.bind_some _ _).symm.trans H; with_reducible exact H2_) | with_reducible exact H | (rw [jm]; exact H) | exact H
           have jO := Aside0.mk jm
           clear jm
           have H' := Aside0.mk H
           clear H
           have jf : 0 ≤ (x9_1 : Int) := of_decide_eq_true (by first | (with_reducible assumption) | assumption)
           have jd : x9_1 < (l0.length : Int) := of_decide_eq_true (by first | (with_reducible assumption) | assumption)
           obtain ⟨jK, jx, jh, ji⟩ := at_T68 HR0.out x9_1 jf jd
           cases jx
           replace jh := (HB.out.cell (World.block_lt_of_cell? w _ jh)).trans jh
           replace ji := (HB.out.cell (World.block_lt_of_cell? w _ ji)).trans ji
           replace jf := eq_true jf
           replace jd := eq_true jd
           have jz : 0 ≤ (x9_1 : Int) := of_decide_eq_true (by first | (with_reducible assumption) | assumption)
           have jB : x9_1 < (l0.length : Int) := of_decide_eq_true (by first | (with_reducible assumption) | assumption)
           obtain ⟨jQ, jV, jA, jt⟩ := at_T68 HR0.out x9_1 jz jB
           obtain rfl : jK = jQ := (by injection jV)
           replace jA := (HB.out.cell (World.block_lt_of_cell? w _ jA)).trans jA
           replace jt := (HB.out.cell (World.block_lt_of_cell? w _ jt)).trans jt
           replace jz := eq_true jz
           replace jB := eq_true jB
           go_wp2_with (first | ((with_reducible refine gate_builtin (b := .append) (xs := #[.tmp 41, .tmp 46]) rfl ?_); at_builtin; refine Kd.R_append k68 (w0 := w) w.heap.size rfl (.tmp 41) (.tmp 46) 30 68 (.agg #[(.int .i64 0), (.int .i64 0)]) 16 rfl Try.underlying30 info68 rfl (by decide) (by omega) u7 x7_1 (⟨(rd_T68 l0 x9_1).f0, (rd_T68 l0 x9_1).f1⟩ : S68) [.int .i64 ((rd_T68 l0 x9_1).f0), .int .i64 ((rd_T68 l0 x9_1).f1)] (fun _ => True) (fun _ => False) rfl rfl ?aP (fun _ hk => hk.elim) ?aF ?aO ?aB ?aS ?aL ?_; (case aP => exact k68_mkM _ _ _ (⟨(rd_T68 l0 x9_1).f0, (rd_T68 l0 x9_1).f1⟩ : S68)); (case aB => exact (hb_ HB.out)); (case aF => exact (fun _ _ => trivial)); (case aO => exact (kr_ HO_7.out)); (case aS => exact (below_size (hb_ HB.out))); (case aL => have := LMc22.out; omega); intro jab w23 ho hb hg hat; rw [← jO.out] at ho; have n0_ := Aside0.mk (hb); have n1_ := Aside0.mk (ho); clear HB; clear HO_7; have HB := n0_; have jX := n1_; clear n0_ n1_; clear ho hb hg hat))
           go_roundg kj6
           case measure => have := HK1.out; have := HJ6.out; omega
           case rel => exact ⟨(jJ), (x8_1), (wrap64 (x9_1 + 1)), (by first | rfl | (simp; done) | (simp [*]; done)), (by first | rfl | (simp; done) | (simp [*]; done)), H', ⟨by have := HK1.out; have := HJ6.out; omega⟩, ⟨kr_ jX.out⟩, ⟨hb_ HB.out⟩⟩
          ·rw [if_neg c22] at H
           exact absurd H (by simp)
        ·rw [if_neg c20] at H
         exact absurd H (by simp)
       ·rw [if_neg c19] at H
        exact absurd H (by simp)
   ·rw [if_neg c6] at H
    have c6b0 : decide (x9_1 < (l0.length : Int)) = false := decide_eq_false c6
    clear c6
    by_cases c24 : x8_1 = true
    ·subst c24
     have H1 : (some x7_1) = some r := by rw [if_pos rfl] at H; exact H
     clear H
     have H := H1
     clear H1
     obtain rfl := Option.some.inj H
     go_wp2
     go_ret
     exact ⟨_, by first | rfl | (simp [errW_none, errW_some] <;> rfl) | (simp [*, errW_none, errW_some] <;> rfl), by (with_reducible repeat (first | apply Kd.R_alloc | apply Kd.R_drewN | apply Kd.R_drew)); exact HO_7.out, by repeat (first | (with_reducible first | exact HB.out | apply below_alloc | apply pw_below_drewN | apply below_drew1) | exact HB.out)⟩
    ·replace c24 := Bool.eq_false_iff.mpr c24
     subst c24
     have H1 : (if x7_1.length < 8796093022208 then (some (x7_1 ++ [(⟨a1, a2⟩ : S68)])) else (none)) = some r := by rw [if_neg (show ¬ (false = true) by decide)] at H; exact H
     clear H
     have H := H1
     clear H1
     by_cases c25 : x7_1.length < 8796093022208
     ·rw [if_pos c25] at H
      have LMc25 := Aside0.mk c25
      clear c25
      obtain ⟨jY, jl⟩ : ∃ y_ : List (S68), y_ = (x7_1 ++ [(⟨a1, a2⟩ : S68)]) := ⟨_, rfl⟩
      replace H : (some jY) = some r := by first | (rw [jl]; with_reducible exact H) | (have H2_ := (Option.bind_some _ _).symm.trans H; rw [jl]; with_reducible exact H2_) | (have H2_ := (Option.bind_some _ _).symm.trans H; with_reducible exact H2_) | with_reducible exact H | (rw [jl]; exact H) | exact H
      have jW := Aside0.mk jl
      clear jl
      obtain rfl := Option.some.inj H
      go_wp2_with (first | ((with_reducible refine gate_builtin (b := .append) (xs := #[.tmp 50, .tmp 54]) rfl ?_); at_builtin; refine Kd.R_append k68 (w0 := w) w.heap.size rfl (.tmp 50) (.tmp 54) 30 68 (.agg #[(.int .i64 0), (.int .i64 0)]) 16 rfl Try.underlying30 info68 rfl (by decide) (by omega) u7 x7_1 (⟨a1, a2⟩ : S68) [.int .i64 a1, .int .i64 a2] (fun _ => True) (fun _ => False) rfl rfl ?aP (fun _ hk => hk.elim) ?aF ?aO ?aB ?aS ?aL ?_; (case aP => exact k68_mkM _ _ _ (⟨a1, a2⟩ : S68)); (case aB => exact (hb_ HB.out)); (case aF => exact (fun _ _ => trivial)); (case aO => exact (kr_ HO_7.out)); (case aS => exact (below_size (hb_ HB.out))); (case aL => have := LMc25.out; omega); intro jad w26 ho hb hg hat; rw [← jW.out] at ho; have n0_ := Aside0.mk (hb); have n1_ := Aside0.mk (ho); clear HB; clear HO_7; have HB := n0_; have jU := n1_; clear n0_ n1_; clear ho hb hg hat))
      go_ret
      exact ⟨_, by first | rfl | (simp [errW_none, errW_some] <;> rfl) | (simp [*, errW_none, errW_some] <;> rfl), by (with_reducible repeat (first | apply Kd.R_alloc | apply Kd.R_drewN | apply Kd.R_drew)); exact jU.out, by repeat (first | (with_reducible first | exact HB.out | apply below_alloc | apply pw_below_drewN | apply below_drew1) | exact HB.out)⟩
     ·rw [if_neg c25] at H
      exact absurd H (by simp)

end Go.Proofs.Ytbjdnfgalopfiaa.PD
