import Derived.Test.YtdjiclhjficgfaaPXx0
import Derived.Test.YtdjiclhjficgfaaPXx5
import Derived.Test.YtdjiclhjficgfaaPXx9
import Derived.Test.YtdjiclhjficgfaaPXx10
namespace Go.Proofs.Ytdjiclhjficgfaa.PX
open Go.RowKit Go.Proofs.YtdjiclhjficgfaaW.PrintWords Go.Proofs.YtdjiclhjficgfaaW.PrintLast Go.Proofs.YtdjiclhjficgfaaW.PrintMore
attribute [local go_sem] max2_int min2_int max_two min_two max_three min_three max_four min_four
set_option linter.unusedVariables false
set_option linter.unusedSimpArgs false

mutual
def spec_DealRun.j0 : Nat → List (S46) → List (S48) → Bool → Option (Int × List Int × (List (S48)))
 | 0, _, _, _ => none
 | k + 1, x0, x1, x20 => if x20 = true then (some (9, (([] : List Int)), (([] : List (S48))))) else (spec_DealRun.l0 k x0 x1 (([] : List Int)) (([] : List (S48))) 0)
def spec_DealRun.l0 : Nat → List (S46) → List (S48) → List Int → List (S48) → Int → Option (Int × List Int × (List (S48)))
 | 0, _, _, _, _, _ => none
 | k + 1, x0, x7, x8, x9, x10 => if x10 < (x0.length : Int) then (if 0 ≤ x10 then ((spec_l1Get.f k x7 ((rd_T46 x0 x10).f1)).bind fun t210017 => (if ((rd_T46 x0 x10).f0) = 1 then (if x8.length < 17592186044416 then (spec_DealRun.l0 k x0 x7 (x8 ++ [t210017]) x9 (wrap64 (x10 + 1))) else (none)) else (if ((rd_T46 x0 x10).f0) = 4 then (if t210017 < ((rd_T46 x0 x10).f2) then (some (1, (([] : List Int)), (([] : List (S48))))) else (spec_DealRun.l0 k x0 x7 x8 x9 (wrap64 (x10 + 1)))) else (if ((rd_T46 x0 x10).f0) = 3 then (spec_DealRun.j2 k x0 x7 x8 x9 x10 (wrap64 (t210017 + ((rd_T46 x0 x10).f2))) ((rd_T46 x0 x10).f0) ((rd_T46 x0 x10).f1) ((rd_T46 x0 x10).f2)) else (spec_DealRun.j2 k x0 x7 x8 x9 x10 ((rd_T46 x0 x10).f2) ((rd_T46 x0 x10).f0) ((rd_T46 x0 x10).f1) ((rd_T46 x0 x10).f2)))))) else (none)) else (some (0, x8, x9))
def spec_DealRun.j2 : Nat → List (S46) → List (S48) → List Int → List (S48) → Int → Int → Int → Int → Int → Option (Int × List Int × (List (S48)))
 | 0, _, _, _, _, _, _, _, _, _ => none
 | k + 1, x0, x7, x8, x9, x10, x12, x210017000, x210017001, x210017002 => (spec_l1Val.f x12).bind fun t210027 => (if t210027 = true then ((spec_l1Set.f k x7 x210017001 x12).bind fun t210028 => ((spec_l1Set.f k x9 x210017001 x12).bind fun t210031 => (spec_DealRun.l0 k x0 t210028 x8 t210031 (wrap64 (x10 + 1))))) else (some (2, (([] : List Int)), (([] : List (S48))))))
end
def spec_DealRun.f (k : Nat) (l0 : List (S46)) (l1 : List (S48)) : Option (Int × List Int × (List (S48))) := (spec_DealOk.f k l0).bind fun t210001 => (if t210001 = true then ((spec_l1Pairs.f k l1).bind fun t210002 => (spec_DealRun.j0 k l0 l1 (!t210002))) else (spec_DealRun.j0 k l0 l1 true))
theorem spec_DealRun.mono_l : ∀ k, (∀ y0 y1 y2, LeO (spec_DealRun.j0 k y0 y1 y2) (spec_DealRun.j0 (k + 1) y0 y1 y2)) ∧ (∀ y0 y1 y2 y3 y4, LeO (spec_DealRun.l0 k y0 y1 y2 y3 y4) (spec_DealRun.l0 (k + 1) y0 y1 y2 y3 y4)) ∧ (∀ y0 y1 y2 y3 y4 y5 y6 y7 y8, LeO (spec_DealRun.j2 k y0 y1 y2 y3 y4 y5 y6 y7 y8) (spec_DealRun.j2 (k + 1) y0 y1 y2 y3 y4 y5 y6 y7 y8))
 | 0 => ⟨fun _ _ _ r h => by simp [spec_DealRun.j0] at h, fun _ _ _ _ _ r h => by simp [spec_DealRun.l0] at h, fun _ _ _ _ _ _ _ _ _ r h => by simp [spec_DealRun.j2] at h⟩
 | k + 1 => by
  obtain ⟨ih0, ih1, ih2⟩ := spec_DealRun.mono_l k
  refine ⟨?_, ?_, ?_⟩
  ·intro y0 y1 y2
   unfold spec_DealRun.j0
   repeat' first
   | (with_reducible exact ih0 _ _ _)
   | (with_reducible exact ih1 _ _ _ _ _)
   | (with_reducible exact ih2 _ _ _ _ _ _ _ _ _)
   | (with_reducible exact spec_DealOk.mono _ _)
   | (with_reducible exact spec_l1Get.mono _ _ _)
   | (with_reducible exact spec_l1Pairs.mono _ _)
   | (with_reducible exact spec_l1Set.mono _ _ _ _)
   | (with_reducible exact LeO.refl _)
   | (with_reducible exact LeO.none _)
   | (with_reducible refine LeO.ite ?_ ?_)
   | (with_reducible refine LeO.bind ?_ (fun _ => ?_))
   | exact ih0 _ _ _
   | exact ih1 _ _ _ _ _
   | exact ih2 _ _ _ _ _ _ _ _ _
   | exact spec_DealOk.mono _ _
   | exact spec_l1Get.mono _ _ _
   | exact spec_l1Pairs.mono _ _
   | exact spec_l1Set.mono _ _ _ _
   | exact LeO.none _
   | refine LeO.ite ?_ ?_
   | refine LeO.bind ?_ (fun _ => ?_)
  ·intro y0 y1 y2 y3 y4
   unfold spec_DealRun.l0
   repeat' first
   | (with_reducible exact ih0 _ _ _)
   | (with_reducible exact ih1 _ _ _ _ _)
   | (with_reducible exact ih2 _ _ _ _ _ _ _ _ _)
   | (with_reducible exact spec_DealOk.mono _ _)
   | (with_reducible exact spec_l1Get.mono _ _ _)
   | (with_reducible exact spec_l1Pairs.mono _ _)
   | (with_reducible exact spec_l1Set.mono _ _ _ _)
   | (with_reducible exact LeO.refl _)
   | (with_reducible exact LeO.none _)
   | (with_reducible refine LeO.ite ?_ ?_)
   | (with_reducible refine LeO.bind ?_ (fun _ => ?_))
   | exact ih0 _ _ _
   | exact ih1 _ _ _ _ _
   | exact ih2 _ _ _ _ _ _ _ _ _
   | exact spec_DealOk.mono _ _
   | exact spec_l1Get.mono _ _ _
   | exact spec_l1Pairs.mono _ _
   | exact spec_l1Set.mono _ _ _ _
   | exact LeO.none _
   | refine LeO.ite ?_ ?_
   | refine LeO.bind ?_ (fun _ => ?_)
  ·intro y0 y1 y2 y3 y4 y5 y6 y7 y8
   unfold spec_DealRun.j2
   repeat' first
   | (with_reducible exact ih0 _ _ _)
   | (with_reducible exact ih1 _ _ _ _ _)
   | (with_reducible exact ih2 _ _ _ _ _ _ _ _ _)
   | (with_reducible exact spec_DealOk.mono _ _)
   | (with_reducible exact spec_l1Get.mono _ _ _)
   | (with_reducible exact spec_l1Pairs.mono _ _)
   | (with_reducible exact spec_l1Set.mono _ _ _ _)
   | (with_reducible exact LeO.refl _)
   | (with_reducible exact LeO.none _)
   | (with_reducible refine LeO.ite ?_ ?_)
   | (with_reducible refine LeO.bind ?_ (fun _ => ?_))
   | exact ih0 _ _ _
   | exact ih1 _ _ _ _ _
   | exact ih2 _ _ _ _ _ _ _ _ _
   | exact spec_DealOk.mono _ _
   | exact spec_l1Get.mono _ _ _
   | exact spec_l1Pairs.mono _ _
   | exact spec_l1Set.mono _ _ _ _
   | exact LeO.none _
   | refine LeO.ite ?_ ?_
   | refine LeO.bind ?_ (fun _ => ?_)
theorem spec_DealRun.mono : ∀ a0 a1 k, LeO (spec_DealRun.f k a0 a1) (spec_DealRun.f (k + 1) a0 a1) := by
 intro a0 a1 k
 obtain ⟨ih0, ih1, ih2⟩ := spec_DealRun.mono_l k
 unfold spec_DealRun.f
 repeat' first
  | (with_reducible exact ih0 _ _ _)
  | (with_reducible exact ih1 _ _ _ _ _)
  | (with_reducible exact ih2 _ _ _ _ _ _ _ _ _)
  | (with_reducible exact spec_DealOk.mono _ _)
  | (with_reducible exact spec_l1Get.mono _ _ _)
  | (with_reducible exact spec_l1Pairs.mono _ _)
  | (with_reducible exact spec_l1Set.mono _ _ _ _)
  | (with_reducible exact LeO.refl _)
  | (with_reducible exact LeO.none _)
  | (with_reducible refine LeO.ite ?_ ?_)
  | (with_reducible refine LeO.bind ?_ (fun _ => ?_))
  | exact ih0 _ _ _
  | exact ih1 _ _ _ _ _
  | exact ih2 _ _ _ _ _ _ _ _ _
  | exact spec_DealOk.mono _ _
  | exact spec_l1Get.mono _ _ _
  | exact spec_l1Pairs.mono _ _
  | exact spec_l1Set.mono _ _ _ _
  | exact LeO.none _
  | refine LeO.ite ?_ ?_
  | refine LeO.bind ?_ (fun _ => ?_)
set_option maxHeartbeats 8000000 in
set_option maxRecDepth 100000 in
theorem spec_DealRun.calls (k : Nat) (A0 : Option Addr) (c0 : Nat) (l0 : List (S46)) (P1_ : Nat → Prop) (A1 : Option Addr) (c1 : Nat) (l1 : List (S48)) (r1 : Int) (r2 : List Int) (r3 : List (S48)) (w : World) (hr0 : Kd.C k46 w A0 l0.length l0) (hc0 : l0.length ≤ c0) (hs1 : Kd.V k48 48 w w.heap.size (fun k_ => P1_ k_) (.slice A1 l1.length c1) l1) (h : spec_DealRun.f k l0 l1 = some (r1, r2, r3)) :
 Calls Try.prog 20 #[.slice A0 l0.length c0, .slice A1 l1.length c1] w fun e w' => ∃ v1_ v2_ : Value, e = .returned (.tuple #[.int .i64 r1, v1_, v2_]) ∧ Kd.R (Kd.int .i64) 3 w' w.heap.size (fun k_ => (w.heap.size ≤ k_)) v1_ r2 ∧ Kd.R k48 48 w' w.heap.size (fun k_ => (w.heap.size ≤ k_)) v2_ r3 ∧ Below w.heap.size w w' := by
 have hu46 := Try.underlying46
 have HR0 := Aside0.mk hr0
 have HC0 := Aside0.mk hc0
 clear hr0 hc0
 have HO1 := Aside0.mk (show Kd.V k48 48 w w.heap.size (fun k_ => (P1_ k_ ∨ w.heap.size ≤ k_)) (.slice A1 l1.length c1) l1 from Kd.V_mono hs1 (fun k_ hk => .inl hk))
 have HB := Aside0.mk (Below.refl w.heap.size w)
 have H : ((spec_DealOk.f k l0).bind fun t210001 => (if t210001 = true then ((spec_l1Pairs.f k l1).bind fun t210002 => (spec_DealRun.j0 k l0 l1 (!t210002))) else (spec_DealRun.j0 k l0 l1 true))) = some (r1, r2, r3) := h
 clear h
 have HC3 := Aside0.mk H
 clear H
 go_enter Try.func20, Try.ntmps20
 go_upto_region 1 with (fail)
 go_cut [20] (fun v20 wc => ∃ (kq : Nat) (x20_2 : Bool), v20 = .bool x20_2 ∧ Aside0 (spec_DealRun.j0 kq l0 l1 x20_2 = some (r1, r2, r3)) ∧ Aside0 (kq ≤ k) ∧ Aside0 (Kd.V k48 48 wc w.heap.size (fun k_ => (P1_ k_ ∨ w.heap.size ≤ k_)) (.slice A1 l1.length c1) l1) ∧ Aside0 (Below w.heap.size w wc))
 case first =>
  have H := HC3.out
  clear HC3
  replace H := Option.bind_eq_some_iff.mp H
  obtain ⟨t210001, A40, H⟩ := H
  replace H : (if t210001 = true then ((spec_l1Pairs.f k l1).bind fun t210002 => (spec_DealRun.j0 k l0 l1 (!t210002))) else (spec_DealRun.j0 k l0 l1 true)) = some (r1, r2, r3) := H
  have A4 := Aside0.mk A40
  clear A40
  by_cases c5 : t210001 = true
  ·subst c5
   have H1 : ((spec_l1Pairs.f k l1).bind fun t210002 => (spec_DealRun.j0 k l0 l1 (!t210002))) = some (r1, r2, r3) := by rw [if_pos rfl] at H; exact H
   clear H
   have H := H1
   clear H1
   replace H := Option.bind_eq_some_iff.mp H
   obtain ⟨t210002, A60, H⟩ := H
   replace H : (spec_DealRun.j0 k l0 l1 (!t210002)) = some (r1, r2, r3) := H
   have A6 := Aside0.mk A60
   clear A60
   have H' := Aside0.mk H
   clear H
   go_wp2_with (first | ((with_reducible refine gate_callee (f := 15) rfl ?_); refine goesL_ (some 14) rfl rfl Try.func15 (by kernel_rfl) rfl #[.slice A0 l0.length c0] rfl (by (try simp only [List.map_toArray, List.map_cons, List.map_nil]); first | done | rfl | (simp only [List.length_drop, List.length_take]; rfl)) ?_; (with_reducible refine (spec_DealOk.calls k _ _ l0 true _ ?side1 ?side2 A4.out).mono ?_); (case side1 => repeat (first | exact (Kd.C_below HR0.out HB.out) | (with_reducible refine Kd.C_alloc ?_ _) | (with_reducible refine Kd.C_drewN ?_ _) | (with_reducible refine Kd.C_drew ?_))); (case side2 => exact HC0.out); rintro e w7 ⟨rfl, hb⟩; refine ⟨_, rfl, ?_⟩; have n0_ := Aside0.mk (Kd.V_below (by (with_reducible repeat (first | apply Kd.V_alloc | apply Kd.V_drewN | apply Kd.V_drew)); exact HO1.out) hb); have n1_ := Aside0.mk (below_step (by repeat (first | (with_reducible first | exact HB.out | apply below_alloc | apply pw_below_drewN | apply below_drew1) | exact HB.out)) hb); clear HO1; clear HB; have HO1 := n0_; have HB := n1_; clear n0_ n1_; (try clear hb); (try clear hb2); (try clear hk); (try clear hi)) | (go_at_call 49; (with_reducible refine (spec_l1Pairs.calls k _ _ l1 t210002 _ ?side1 ?side2 A6.out).mono ?_); (case side1 => repeat (first | exact (Kd.V_reads' HO1.out).2.2 | (with_reducible refine Kd.C_alloc ?_ _) | (with_reducible refine Kd.C_drewN ?_ _) | (with_reducible refine Kd.C_drew ?_))); (case side2 => exact (Kd.V_reads' HO1.out).2.1); rintro e w8 ⟨rfl, hb⟩; have n0_ := Aside0.mk (Kd.V_below (by (with_reducible repeat (first | apply Kd.V_alloc | apply Kd.V_drewN | apply Kd.V_drew)); exact HO1.out) hb); have n1_ := Aside0.mk (below_step (by repeat (first | (with_reducible first | exact HB.out | apply below_alloc | apply pw_below_drewN | apply below_drew1) | exact HB.out)) hb); clear HO1; clear HB; have HO1 := n0_; have HB := n1_; clear n0_ n1_; (try clear hb); (try clear hb2); (try clear hk); (try clear hi)))
   go_meet
   case rel => exact ⟨_, (!t210002), (by first | rfl | (simp; done) | (simp [*]; done)), H', ⟨by first | omega | exact Nat.le_refl _⟩, ⟨by (with_reducible repeat (first | apply Kd.V_alloc | apply Kd.V_drewN | apply Kd.V_drew)); exact HO1.out⟩, ⟨by repeat (first | (with_reducible first | exact HB.out | apply below_alloc | apply pw_below_drewN | apply below_drew1) | exact HB.out)⟩⟩
  ·replace c5 := Bool.eq_false_iff.mpr c5
   subst c5
   have H1 : (spec_DealRun.j0 k l0 l1 true) = some (r1, r2, r3) := by rw [if_neg (show ¬ (false = true) by decide)] at H; exact H
   clear H
   have H := H1
   clear H1
   have H' := Aside0.mk H
   clear H
   go_wp2_with (first | ((with_reducible refine gate_callee (f := 15) rfl ?_); refine goesL_ (some 14) rfl rfl Try.func15 (by kernel_rfl) rfl #[.slice A0 l0.length c0] rfl (by (try simp only [List.map_toArray, List.map_cons, List.map_nil]); first | done | rfl | (simp only [List.length_drop, List.length_take]; rfl)) ?_; (with_reducible refine (spec_DealOk.calls k _ _ l0 false _ ?side1 ?side2 A4.out).mono ?_); (case side1 => repeat (first | exact (Kd.C_below HR0.out HB.out) | (with_reducible refine Kd.C_alloc ?_ _) | (with_reducible refine Kd.C_drewN ?_ _) | (with_reducible refine Kd.C_drew ?_))); (case side2 => exact HC0.out); rintro e w9 ⟨rfl, hb⟩; refine ⟨_, rfl, ?_⟩; have n0_ := Aside0.mk (Kd.V_below (by (with_reducible repeat (first | apply Kd.V_alloc | apply Kd.V_drewN | apply Kd.V_drew)); exact HO1.out) hb); have n1_ := Aside0.mk (below_step (by repeat (first | (with_reducible first | exact HB.out | apply below_alloc | apply pw_below_drewN | apply below_drew1) | exact HB.out)) hb); clear HO1; clear HB; have HO1 := n0_; have HB := n1_; clear n0_ n1_; (try clear hb); (try clear hb2); (try clear hk); (try clear hi)))
   go_meet
   case rel => exact ⟨_, (true), (by first | rfl | (simp; done) | (simp [*]; done)), H', ⟨by first | omega | exact Nat.le_refl _⟩, ⟨by (with_reducible repeat (first | apply Kd.V_alloc | apply Kd.V_drewN | apply Kd.V_drew)); exact HO1.out⟩, ⟨by repeat (first | (with_reducible first | exact HB.out | apply below_alloc | apply pw_below_drewN | apply below_drew1) | exact HB.out)⟩⟩
 case rest =>
  clear HC3
  try clear c1
  try clear c2
  try clear p2
  try clear c5
  obtain ⟨kq, x20_2, rfl, HA, HJ2, HO_1, HB⟩ := hcut
  cases kq with
  | zero => exact absurd HA.out (by simp [spec_DealRun.j0])
  | succ kj2 =>
   have H := HA.out
   clear HA
   simp only [spec_DealRun.j0] at H
   by_cases c10 : x20_2 = true
   ·subst c10
    have H1 : (some (9, (([] : List Int)), (([] : List (S48))))) = some (r1, r2, r3) := by rw [if_pos rfl] at H; exact H
    clear H
    have H := H1
    clear H1
    obtain ⟨y210003, hy210003⟩ : ∃ y_ : List Int, y_ = (([] : List Int)) := ⟨_, rfl⟩
    replace H : (some (9, y210003, (([] : List (S48))))) = some (r1, r2, r3) := by first | (rw [hy210003]; with_reducible exact H) | (have H2_ := (Option.bind_some _ _).symm.trans H; rw [hy210003]; with_reducible exact H2_) | (have H2_ := (Option.bind_some _ _).symm.trans H; with_reducible exact H2_) | with_reducible exact H | (rw [hy210003]; exact H) | exact H
    have Ny210003 := Aside0.mk hy210003
    clear hy210003
    obtain ⟨y210006, hy210006⟩ : ∃ y_ : List (S48), y_ = (([] : List (S48))) := ⟨_, rfl⟩
    replace H : (some (9, y210003, y210006)) = some (r1, r2, r3) := by first | (rw [hy210006]; with_reducible exact H) | (have H2_ := (Option.bind_some _ _).symm.trans H; rw [hy210006]; with_reducible exact H2_) | (have H2_ := (Option.bind_some _ _).symm.trans H; with_reducible exact H2_) | with_reducible exact H | (rw [hy210006]; exact H) | exact H
    have Ny210006 := Aside0.mk hy210006
    clear hy210006
    simp only [Option.some.injEq, Prod.mk.injEq] at H
    obtain ⟨rfl, rfl, rfl⟩ := H
    go_wp2_with (first | ((with_reducible refine gate_dst (N := 21) rfl ?_); refine Kd.R_lit (Kd.int .i64) _ 3 ?hg (N := 21) ?hd (xs := ([] : List Int)) (inner := []) (ok := fun _ => True) (okp := fun _ => True) ?hr ?hp (fun _ hk => hk) trivial (Below.refl _ _) (Nat.le_refl _) (by simp) ?_; (case hd => rfl); (case hg => rfl); (case hr => first | (go_simp; done) | (go_simp; rfl)); (case hp => exact (Reps.none _ _)); intro v210004 w11 ho12 hb hg_ hnew_; clear hg_ hnew_; (first | rw [← Ny210003.out] at ho12 | (simp only [Int.reduceToNat] at ho12; rw [← Ny210003.out] at ho12)); have n0_ := Aside0.mk (Kd.V_elder' (by (with_reducible repeat (first | apply Kd.V_alloc | apply Kd.V_drewN | apply Kd.V_drew)); exact HO_1.out) (Kd.R_base ho12) hb); have n1_ := Aside0.mk (Kd.R_lower (Kd.R_newM (M := fun k_ => (w.heap.size ≤ k_)) ho12 (below_size (by repeat (first | (with_reducible first | exact HB.out | apply below_alloc | apply pw_below_drewN | apply below_drew1) | exact HB.out))) (fun k_ h_ => h_)) (below_size (by repeat (first | (with_reducible first | exact HB.out | apply below_alloc | apply pw_below_drewN | apply below_drew1) | exact HB.out)))); have n2_ := Aside0.mk (below_step (by repeat (first | (with_reducible first | exact HB.out | apply below_alloc | apply pw_below_drewN | apply below_drew1) | exact HB.out)) hb); clear HO_1; clear HB; have HO_1 := n0_; have HO210005 := n1_; have HB := n2_; clear n0_ n1_ n2_; clear hb ho12) | ((with_reducible refine gate_dst (N := 22) rfl ?_); refine Kd.R_lit k48 _ 48 ?hg (N := 22) ?hd (xs := ([] : List (S48))) (inner := []) (ok := fun _ => True) (okp := fun _ => True) ?hr ?hp (fun _ hk => hk) trivial (Below.refl _ _) (Nat.le_refl _) (by simp) ?_; (case hd => rfl); (case hg => rfl); (case hr => first | (go_simp; done) | (go_simp; rfl)); (case hp => exact (Reps.none _ _)); intro v210007 w13 ho14 hb hg_ hnew_; clear hg_ hnew_; (first | rw [← Ny210006.out] at ho14 | (simp only [Int.reduceToNat] at ho14; rw [← Ny210006.out] at ho14)); have n0_ := Aside0.mk (Kd.V_elder' (by (with_reducible repeat (first | apply Kd.V_alloc | apply Kd.V_drewN | apply Kd.V_drew)); exact HO_1.out) (Kd.R_base ho14) hb); have n1_ := Aside0.mk (Kd.R_below (by (with_reducible repeat (first | apply Kd.R_alloc | apply Kd.R_drewN | apply Kd.R_drew)); exact HO210005.out) hb); have n2_ := Aside0.mk (Kd.R_lower (Kd.R_newM (M := fun k_ => (w.heap.size ≤ k_)) ho14 (below_size (by repeat (first | (with_reducible first | exact HB.out | apply below_alloc | apply pw_below_drewN | apply below_drew1) | exact HB.out))) (fun k_ h_ => h_)) (below_size (by repeat (first | (with_reducible first | exact HB.out | apply below_alloc | apply pw_below_drewN | apply below_drew1) | exact HB.out)))); have n3_ := Aside0.mk (below_step (by repeat (first | (with_reducible first | exact HB.out | apply below_alloc | apply pw_below_drewN | apply below_drew1) | exact HB.out)) hb); clear HO_1; clear HO210005; clear HB; have HO_1 := n0_; have HO210005 := n1_; have HO210008 := n2_; have HB := n3_; clear n0_ n1_ n2_ n3_; clear hb ho14))
    go_ret3
    exact ⟨_, _, by first | rfl | (simp [errW_none, errW_some] <;> rfl) | (simp [*, errW_none, errW_some] <;> rfl), by (with_reducible repeat (first | apply Kd.R_alloc | apply Kd.R_drewN | apply Kd.R_drew)); exact Kd.R_mono HO210005.out (fun _ hk => hk.1), by (with_reducible repeat (first | apply Kd.R_alloc | apply Kd.R_drewN | apply Kd.R_drew)); exact Kd.R_mono HO210008.out (fun _ hk => hk.1), by repeat (first | (with_reducible first | exact HB.out | apply below_alloc | apply pw_below_drewN | apply below_drew1) | exact HB.out)⟩
   ·replace c10 := Bool.eq_false_iff.mpr c10
    subst c10
    have H1 : (spec_DealRun.l0 kj2 l0 l1 (([] : List Int)) (([] : List (S48))) 0) = some (r1, r2, r3) := by rw [if_neg (show ¬ (false = true) by decide)] at H; exact H
    clear H
    have H := H1
    clear H1
    obtain ⟨y210009, hy210009⟩ : ∃ y_ : List Int, y_ = (([] : List Int)) := ⟨_, rfl⟩
    replace H : (spec_DealRun.l0 kj2 l0 l1 y210009 (([] : List (S48))) 0) = some (r1, r2, r3) := by first | (rw [hy210009]; with_reducible exact H) | (have H2_ := (Option.bind_some _ _).symm.trans H; rw [hy210009]; with_reducible exact H2_) | (have H2_ := (Option.bind_some _ _).symm.trans H; with_reducible exact H2_) | with_reducible exact H | (rw [hy210009]; exact H) | exact H
    have Ny210009 := Aside0.mk hy210009
    clear hy210009
    obtain ⟨y210012, hy210012⟩ : ∃ y_ : List (S48), y_ = (([] : List (S48))) := ⟨_, rfl⟩
    replace H : (spec_DealRun.l0 kj2 l0 l1 y210009 y210012 0) = some (r1, r2, r3) := by first | (rw [hy210012]; with_reducible exact H) | (have H2_ := (Option.bind_some _ _).symm.trans H; rw [hy210012]; with_reducible exact H2_) | (have H2_ := (Option.bind_some _ _).symm.trans H; with_reducible exact H2_) | with_reducible exact H | (rw [hy210012]; exact H) | exact H
    have Ny210012 := Aside0.mk hy210012
    clear hy210012
    have H' := Aside0.mk H
    clear H
    go_wp2_with (first | ((with_reducible refine gate_dst (N := 24) rfl ?_); refine Kd.R_lit (Kd.int .i64) _ 3 ?hg (N := 24) ?hd (xs := ([] : List Int)) (inner := []) (ok := fun _ => True) (okp := fun _ => True) ?hr ?hp (fun _ hk => hk) trivial (Below.refl _ _) (Nat.le_refl _) (by simp) ?_; (case hd => rfl); (case hg => rfl); (case hr => first | (go_simp; done) | (go_simp; rfl)); (case hp => exact (Reps.none _ _)); intro v210010 w15 ho16 hb hg_ hnew_; clear hg_ hnew_; (first | rw [← Ny210009.out] at ho16 | (simp only [Int.reduceToNat] at ho16; rw [← Ny210009.out] at ho16)); have n0_ := Aside0.mk (Kd.V_elder' (by (with_reducible repeat (first | apply Kd.V_alloc | apply Kd.V_drewN | apply Kd.V_drew)); exact HO_1.out) (Kd.R_base ho16) hb); have n1_ := Aside0.mk (Kd.R_lower (Kd.R_newM (M := fun k_ => (w.heap.size ≤ k_)) ho16 (below_size (by repeat (first | (with_reducible first | exact HB.out | apply below_alloc | apply pw_below_drewN | apply below_drew1) | exact HB.out))) (fun k_ h_ => h_)) (below_size (by repeat (first | (with_reducible first | exact HB.out | apply below_alloc | apply pw_below_drewN | apply below_drew1) | exact HB.out)))); have n2_ := Aside0.mk (below_step (by repeat (first | (with_reducible first | exact HB.out | apply below_alloc | apply pw_below_drewN | apply below_drew1) | exact HB.out)) hb); clear HO_1; clear HB; have HO_1 := n0_; have HO210011 := n1_; have HB := n2_; clear n0_ n1_ n2_; clear hb ho16) | ((with_reducible refine gate_dst (N := 25) rfl ?_); refine Kd.R_lit k48 _ 48 ?hg (N := 25) ?hd (xs := ([] : List (S48))) (inner := []) (ok := fun _ => True) (okp := fun _ => True) ?hr ?hp (fun _ hk => hk) trivial (Below.refl _ _) (Nat.le_refl _) (by simp) ?_; (case hd => rfl); (case hg => rfl); (case hr => first | (go_simp; done) | (go_simp; rfl)); (case hp => exact (Reps.none _ _)); intro v210013 w17 ho18 hb hg_ hnew_; clear hg_ hnew_; (first | rw [← Ny210012.out] at ho18 | (simp only [Int.reduceToNat] at ho18; rw [← Ny210012.out] at ho18)); have n0_ := Aside0.mk (Kd.V_elder' (by (with_reducible repeat (first | apply Kd.V_alloc | apply Kd.V_drewN | apply Kd.V_drew)); exact HO_1.out) (Kd.R_base ho18) hb); have n1_ := Aside0.mk (Kd.R_below (by (with_reducible repeat (first | apply Kd.R_alloc | apply Kd.R_drewN | apply Kd.R_drew)); exact HO210011.out) hb); have n2_ := Aside0.mk (Kd.R_lower (Kd.R_newM (M := fun k_ => (w.heap.size ≤ k_)) ho18 (below_size (by repeat (first | (with_reducible first | exact HB.out | apply below_alloc | apply pw_below_drewN | apply below_drew1) | exact HB.out))) (fun k_ h_ => h_)) (below_size (by repeat (first | (with_reducible first | exact HB.out | apply below_alloc | apply pw_below_drewN | apply below_drew1) | exact HB.out)))); have n3_ := Aside0.mk (below_step (by repeat (first | (with_reducible first | exact HB.out | apply below_alloc | apply pw_below_drewN | apply below_drew1) | exact HB.out)) hb); clear HO_1; clear HO210011; clear HB; have HO_1 := n0_; have HO210011 := n1_; have HO210014 := n2_; have HB := n3_; clear n0_ n1_ n2_ n3_; clear hb ho18))
    go_loopg [7, 8, 9, 10] kj2 (fun kq v7 v8 v9 v10 w' => ∃ (x7_2 : List (S48)) (x8_2 : List Int) (x9_2 : List (S48)) (x10_2 : Int), v10 = .int .i64 x10_2 ∧ Aside0 (spec_DealRun.l0 kq l0 x7_2 x8_2 x9_2 x10_2 = some (r1, r2, r3)) ∧ Aside0 (kq ≤ kj2) ∧ Aside0 (Kd.V k48 48 w' w.heap.size (fun k_ => (P1_ k_ ∨ w.heap.size ≤ k_) ∧ some k_ ≠ (v8 : Value).ownBlock ∧ some k_ ≠ (v9 : Value).ownBlock) v7 x7_2) ∧ Aside0 (Kd.R (Kd.int .i64) 3 w' w.heap.size (fun k_ => (w.heap.size ≤ k_)) v8 x8_2) ∧ Aside0 (Kd.R k48 48 w' w.heap.size (fun k_ => (w.heap.size ≤ k_)) v9 x9_2) ∧ Aside0 (Below w.heap.size w w'))
    case atStart => exact ⟨(l1), (y210009), (y210012), (0), (by first | rfl | (simp; done) | (simp [*]; done)), H', ⟨Nat.le_refl _⟩, ⟨by (with_reducible repeat (first | apply Kd.V_alloc | apply Kd.V_drewN | apply Kd.V_drew)); exact Kd.V_mono HO_1.out (fun _ hk => ⟨hk.1.1, ⟨hk.1.2, hk.2⟩⟩)⟩, ⟨by (with_reducible repeat (first | apply Kd.R_alloc | apply Kd.R_drewN | apply Kd.R_drew)); exact Kd.R_mono HO210011.out (fun _ hk => hk.1)⟩, ⟨by (with_reducible repeat (first | apply Kd.R_alloc | apply Kd.R_drewN | apply Kd.R_drew)); exact Kd.R_mono HO210014.out (fun _ hk => hk.1)⟩, ⟨by repeat (first | (with_reducible first | exact HB.out | apply below_alloc | apply pw_below_drewN | apply below_drew1) | exact HB.out)⟩⟩
    case round =>
     clear H'
     try clear c1
     try clear c2
     try clear p2
     try clear c5
     try clear c10
     try clear c15
     try clear p2
     obtain ⟨x7_2, x8_2, x9_2, x10_2, rfl, HA, HK2, HO_7, HO_8, HO_9, HB⟩ := hrel
     cases gk with
     | zero => exact absurd HA.out (by simp [spec_DealRun.l0])
     | succ k2 =>
      have H := HA.out
      clear HA
      simp only [spec_DealRun.l0] at H
      by_cases c19 : x10_2 < (l0.length : Int)
      ·rw [if_pos c19] at H
       have c19b0 : decide (x10_2 < (l0.length : Int)) = true := decide_eq_true c19
       clear c19
       by_cases c20 : 0 ≤ x10_2
       ·rw [if_pos c20] at H
        have c20b0 : decide (0 ≤ x10_2) = true := decide_eq_true c20
        clear c20
        replace H := Option.bind_eq_some_iff.mp H
        obtain ⟨t210017, A210, H⟩ := H
        replace H : (if ((rd_T46 l0 x10_2).f0) = 1 then (if x8_2.length < 17592186044416 then (spec_DealRun.l0 k2 l0 x7_2 (x8_2 ++ [t210017]) x9_2 (wrap64 (x10_2 + 1))) else (none)) else (if ((rd_T46 l0 x10_2).f0) = 4 then (if t210017 < ((rd_T46 l0 x10_2).f2) then (some (1, (([] : List Int)), (([] : List (S48))))) else (spec_DealRun.l0 k2 l0 x7_2 x8_2 x9_2 (wrap64 (x10_2 + 1)))) else (if ((rd_T46 l0 x10_2).f0) = 3 then (spec_DealRun.j2 k2 l0 x7_2 x8_2 x9_2 x10_2 (wrap64 (t210017 + ((rd_T46 l0 x10_2).f2))) ((rd_T46 l0 x10_2).f0) ((rd_T46 l0 x10_2).f1) ((rd_T46 l0 x10_2).f2)) else (spec_DealRun.j2 k2 l0 x7_2 x8_2 x9_2 x10_2 ((rd_T46 l0 x10_2).f2) ((rd_T46 l0 x10_2).f0) ((rd_T46 l0 x10_2).f1) ((rd_T46 l0 x10_2).f2))))) = some (r1, r2, r3) := H
        have A21 := Aside0.mk A210
        clear A210
        have HC22 := Aside0.mk H
        clear H
        have p210015 : 0 ≤ (x10_2 : Int) := of_decide_eq_true (by first | (with_reducible assumption) | assumption)
        have q210015 : x10_2 < (l0.length : Int) := of_decide_eq_true (by first | (with_reducible assumption) | assumption)
        obtain ⟨ad210015, e210015, hx210015_0, hx210015_1, hx210015_2⟩ := at_T46 HR0.out x10_2 p210015 q210015
        cases e210015
        replace hx210015_0 := (HB.out.cell (World.block_lt_of_cell? w _ hx210015_0)).trans hx210015_0
        replace hx210015_1 := (HB.out.cell (World.block_lt_of_cell? w _ hx210015_1)).trans hx210015_1
        replace hx210015_2 := (HB.out.cell (World.block_lt_of_cell? w _ hx210015_2)).trans hx210015_2
        replace p210015 := eq_true p210015
        replace q210015 := eq_true q210015
        go_upto_block 2 with (first | ((with_reducible refine gate_dst (N := 11) rfl ?_); refine box_event ?hg (N := 11) ?hd (cs := #[.int .i64 0, .int .i64 0, .int .i64 0]) (t := 46) ?hr ?_; (case hd => rfl); (case hg => rfl); (case hr => first | (go_simp; done) | (go_simp; rfl)); intro gb210016 hg w23 hbox hb; have n0_ := Aside0.mk (Kd.V_below (Kd.V_elderB (by (with_reducible repeat (first | apply Kd.V_alloc | apply Kd.V_drewN | apply Kd.V_drew)); exact HO_7.out) gb210016 (Nat.le_of_eq hg.symm)) hb); have n1_ := Aside0.mk (Kd.R_below (by (with_reducible repeat (first | apply Kd.R_alloc | apply Kd.R_drewN | apply Kd.R_drew)); exact HO_8.out) hb); have n2_ := Aside0.mk (Kd.R_below (by (with_reducible repeat (first | apply Kd.R_alloc | apply Kd.R_drewN | apply Kd.R_drew)); exact HO_9.out) hb); have n3_ := Aside0.mk (below_step (by repeat (first | (with_reducible first | exact HB.out | apply below_alloc | apply pw_below_drewN | apply below_drew1) | exact HB.out)) hb); have n4_ := Aside0.mk (hbox); have n5_ := Aside0.mk ((by rw [hg]; exact (below_size (by repeat (first | (with_reducible first | exact HB.out | apply below_alloc | apply pw_below_drewN | apply below_drew1) | exact HB.out))) : w.heap.size ≤ gb210016)); have n6_ := Aside0.mk ((by rw [hg]; exact (below_size (by repeat (first | (with_reducible first | exact HB.out | apply below_alloc | apply pw_below_drewN | apply below_drew1) | exact HB.out))) : w.heap.size ≤ gb210016)); clear HO_7; clear HO_8; clear HO_9; clear HB; have HO_7 := n0_; have HO_8 := n1_; have HO_9 := n2_; have HB := n3_; have BK210016 := n4_; have GW210016 := n5_; have GE210016 := n6_; clear n0_ n1_ n2_ n3_ n4_ n5_ n6_; clear hb hbox hg; have hcz24_0 : w23.cell? ⟨gb210016, 0, none⟩ = some (.int .i64 0) := (blk_cell BK210016.out 0).trans rfl; have hcz24_1 : w23.cell? ⟨gb210016, 1, none⟩ = some (.int .i64 0) := (blk_cell BK210016.out 1).trans rfl; have hcz24_2 : w23.cell? ⟨gb210016, 2, none⟩ = some (.int .i64 0) := (blk_cell BK210016.out 2).trans rfl; have hfz24_0 := blk_frozen BK210016.out 0; have hfz24_1 := blk_frozen BK210016.out 1; have hfz24_2 := blk_frozen BK210016.out 2; obtain ⟨Ao25, co25, eo25⟩ := Kd.V_slice HO_7.out; subst eo25) | ((with_reducible refine gate_callee (f := 50) rfl ?_); refine goesL_ (some 39) rfl rfl Try.func50 (by kernel_rfl) rfl #[.slice Ao25 x7_2.length co25, .int .i64 ((rd_T46 l0 x10_2).f1)] rfl (by (try simp only [List.map_toArray, List.map_cons, List.map_nil]); first | done | rfl | (simp only [List.length_drop, List.length_take]; rfl)) ?_; (with_reducible refine (spec_l1Get.calls k2 _ _ x7_2 ((rd_T46 l0 x10_2).f1) t210017 _ ?side1 ?side2 A21.out).mono ?_); (case side1 => refine (Kd.V_reads' (e := 48) (base := w.heap.size) (ok := fun k_ => (((P1_ k_ ∨ w.heap.size ≤ k_) ∧ (some k_ ≠ (u8 : Value).ownBlock ∧ some k_ ≠ (u9 : Value).ownBlock)) ∧ k_ ≠ gb210016)) (n := x7_2.length) (c := co25) ?_).2.2; exact (by (with_reducible repeat (first | apply Kd.V_alloc | apply Kd.V_drewN | apply Kd.V_drew)); exact (Kd.V_mono (Kd.V_far (p := ⟨gb210016, 2, none⟩) (Kd.V_far (p := ⟨gb210016, 1, none⟩) (Kd.V_far (p := ⟨gb210016, 0, none⟩) (Kd.V_mono HO_7.out (fun k_ hk => (⟨hk, hk.2⟩ : _ ∧ k_ ≠ gb210016))) (fun _ hk => hk.2) (.int .i64 ((rd_T46 l0 x10_2).f0))) (fun _ hk => hk.2) (.int .i64 ((rd_T46 l0 x10_2).f1))) (fun _ hk => hk.2) (.int .i64 ((rd_T46 l0 x10_2).f2))) (fun _ h_ => h_.1)))); (case side2 => exact (Kd.V_reads' HO_7.out).2.1); rintro e w' ⟨rfl, ⟨nd, rfl⟩⟩; refine ⟨_, rfl, ?_⟩))
        (try simp only [Act.put, List.setIfInBounds_toArray, List.set_cons_zero, List.set_cons_succ])
        go_cut [8, 12] (fun v8 v12 wc => ∃ (kq : Nat) (x8_21 : List Int) (x12_21 : Int), v12 = .int .i64 x12_21 ∧ Aside0 (spec_DealRun.j2 kq l0 x7_2 x8_21 x9_2 x10_2 x12_21 ((rd_T46 l0 x10_2).f0) ((rd_T46 l0 x10_2).f1) ((rd_T46 l0 x10_2).f2) = some (r1, r2, r3)) ∧ Aside0 (kq ≤ k2) ∧ Aside0 (Kd.V k48 48 wc w.heap.size (fun k_ => (P1_ k_ ∨ w.heap.size ≤ k_) ∧ some k_ ≠ (v8 : Value).ownBlock ∧ some k_ ≠ (u9 : Value).ownBlock ∧ k_ ≠ gb210016) (.slice Ao25 x7_2.length co25) x7_2) ∧ Aside0 (Kd.R (Kd.int .i64) 3 wc w.heap.size (fun k_ => (w.heap.size ≤ k_)) v8 x8_21) ∧ Aside0 (Kd.R k48 48 wc w.heap.size (fun k_ => (w.heap.size ≤ k_)) u9 x9_2) ∧ Aside0 (wc.heap[gb210016]? = some (.cells #[.int .i64 ((rd_T46 l0 x10_2).f0), .int .i64 ((rd_T46 l0 x10_2).f1), .int .i64 ((rd_T46 l0 x10_2).f2)] 46 (0, 0))) ∧ Aside0 (Below w.heap.size w wc))
        case first =>
         have H := HC22.out
         clear HC22
         by_cases c26 : ((rd_T46 l0 x10_2).f0) = 1
         ·rw [if_pos c26] at H
          have c26b0 : (((rd_T46 l0 x10_2).f0) == 1) = true := beq_iff_eq.mpr c26
          have c26b1 : (((rd_T46 l0 x10_2).f0) != 1) = false := bne_eq_false_iff_eq.mpr c26
          clear c26
          (first | rw [c26b0] | (simp only [i64_w, i32_w]; rw [c26b0]) | skip)
          by_cases c27 : x8_2.length < 17592186044416
          ·rw [if_pos c27] at H
           have LMc27 := Aside0.mk c27
           clear c27
           obtain ⟨y210018, hy210018⟩ : ∃ y_ : List Int, y_ = (x8_2 ++ [t210017]) := ⟨_, rfl⟩
           replace H : (spec_DealRun.l0 k2 l0 x7_2 y210018 x9_2 (wrap64 (x10_2 + 1))) = some (r1, r2, r3) := by first | (rw [hy210018]; with_reducible exact H) | (have H2_ := (Option.bind_some _ _).symm.trans H; rw [hy210018]; with_reducible exact H2_) | (have H2_ := (Option.bind_some _ _).symm.trans H; with_reducible exact H2_) | with_reducible exact H | (rw [hy210018]; exact H) | exact H
           have Ny210018 := Aside0.mk hy210018
           clear hy210018
           have H' := Aside0.mk H
           clear H
           go_wp2_with (first | ((with_reducible refine gate_builtin (b := .append) (xs := #[.tmp 46, .tmp 48]) rfl ?_); at_builtin; refine Kd.R_append (Kd.int .i64) (w0 := w) w.heap.size rfl (.tmp 46) (.tmp 48) 31 3 (.int .i64 0) 8 rfl Try.underlying31 info3 rfl (by decide) (by omega) u8 x8_2 t210017 [.int .i64 t210017] (fun k_ => (w.heap.size ≤ k_)) (fun _ => False) rfl (by first | (go_simp; done) | (go_simp; rfl)) ?aP (fun _ hk => hk.elim) ?aF ?aO ?aB ?aS ?aL ?_; (case aP => exact rfl); (case aB => exact (by repeat (first | (with_reducible first | exact HB.out | apply below_alloc | apply pw_below_drewN | apply below_drew1 | refine below_set ?_ GE210016.out) | exact HB.out))); (case aF => exact (fun k_ hk => (Nat.le_trans (below_size (by repeat (first | (with_reducible first | exact HB.out | apply below_alloc | apply pw_below_drewN | apply below_drew1 | refine below_set ?_ GE210016.out) | exact HB.out))) hk))); (case aO => exact (by (with_reducible repeat (first | apply Kd.R_alloc | apply Kd.R_drewN | apply Kd.R_drew)); exact Kd.R_mono (Kd.R_far (p := ⟨gb210016, 2, none⟩) (Kd.R_far (p := ⟨gb210016, 1, none⟩) (Kd.R_far (p := ⟨gb210016, 0, none⟩) (Kd.R_types HO_8.out BK210016.out (by decide)) (fun _ hk => hk.2) (.int .i64 ((rd_T46 l0 x10_2).f0))) (fun _ hk => hk.2) (.int .i64 ((rd_T46 l0 x10_2).f1))) (fun _ hk => hk.2) (.int .i64 ((rd_T46 l0 x10_2).f2))) (fun _ hk => hk.1))); (case aS => exact (below_size (by repeat (first | (with_reducible first | exact HB.out | apply below_alloc | apply pw_below_drewN | apply below_drew1 | refine below_set ?_ GE210016.out) | exact HB.out)))); (case aL => have := LMc27.out; omega); intro v210019 w28 ho hb hg hat; rw [← Ny210018.out] at ho; have n0_ := Aside0.mk (Kd.V_afterv (ok := (fun k_ => (P1_ k_ ∨ w.heap.size ≤ k_) ∧ some k_ ≠ (u9 : Value).ownBlock ∧ k_ ≠ gb210016)) (by (with_reducible repeat (first | apply Kd.V_alloc | apply Kd.V_drewN | apply Kd.V_drew)); exact Kd.V_mono (Kd.V_far (p := ⟨gb210016, 2, none⟩) (Kd.V_far (p := ⟨gb210016, 1, none⟩) (Kd.V_far (p := ⟨gb210016, 0, none⟩) (Kd.V_mono HO_7.out (fun k_ hk => (⟨hk, hk.2⟩ : _ ∧ k_ ≠ gb210016))) (fun _ hk => hk.2) (.int .i64 ((rd_T46 l0 x10_2).f0))) (fun _ hk => hk.2) (.int .i64 ((rd_T46 l0 x10_2).f1))) (fun _ hk => hk.2) (.int .i64 ((rd_T46 l0 x10_2).f2))) (fun _ hk => ⟨⟨hk.1.1.1, ⟨hk.1.1.2.2, hk.1.2⟩⟩, hk.1.1.2.1⟩)) hg hat); have n1_ := Aside0.mk (Kd.R_over' (by (with_reducible repeat (first | apply Kd.R_alloc | apply Kd.R_drewN | apply Kd.R_drew)); exact (Kd.R_mono (Kd.R_far (p := ⟨gb210016, 2, none⟩) (Kd.R_far (p := ⟨gb210016, 1, none⟩) (Kd.R_far (p := ⟨gb210016, 0, none⟩) (Kd.R_types HO_9.out BK210016.out (by decide)) (fun _ hk => hk.2) (.int .i64 ((rd_T46 l0 x10_2).f0))) (fun _ hk => hk.2) (.int .i64 ((rd_T46 l0 x10_2).f1))) (fun _ hk => hk.2) (.int .i64 ((rd_T46 l0 x10_2).f2))) (fun _ h_ => h_.1))) (Kd.R_typed (by (with_reducible repeat (first | apply Kd.R_alloc | apply Kd.R_drewN | apply Kd.R_drew)); exact (Kd.R_mono (Kd.R_far (p := ⟨gb210016, 2, none⟩) (Kd.R_far (p := ⟨gb210016, 1, none⟩) (Kd.R_far (p := ⟨gb210016, 0, none⟩) (Kd.R_types HO_8.out BK210016.out (by decide)) (fun _ hk => hk.2) (.int .i64 ((rd_T46 l0 x10_2).f0))) (fun _ hk => hk.2) (.int .i64 ((rd_T46 l0 x10_2).f1))) (fun _ hk => hk.2) (.int .i64 ((rd_T46 l0 x10_2).f2))) (fun _ h_ => h_.1)))) (by decide) hg); have n2_ := Aside0.mk (blk_grown (g := gb210016) (o := .cells #[.int .i64 ((rd_T46 l0 x10_2).f0), .int .i64 ((rd_T46 l0 x10_2).f1), .int .i64 ((rd_T46 l0 x10_2).f2)] 46 (0, 0)) (by (with_reducible repeat (first | refine blk_drewN ?_ _ | refine blk_drew ?_ | refine blk_alloc ?_ _)); refine blk_put (cs := #[.int .i64 ((rd_T46 l0 x10_2).f0), .int .i64 ((rd_T46 l0 x10_2).f1), .int .i64 0]) ?_ 2 _ rfl; (with_reducible repeat (first | refine blk_drewN ?_ _ | refine blk_drew ?_ | refine blk_alloc ?_ _)); refine blk_put (cs := #[.int .i64 ((rd_T46 l0 x10_2).f0), .int .i64 0, .int .i64 0]) ?_ 1 _ rfl; (with_reducible repeat (first | refine blk_drewN ?_ _ | refine blk_drew ?_ | refine blk_alloc ?_ _)); refine blk_put (cs := #[.int .i64 0, .int .i64 0, .int .i64 0]) ?_ 0 _ rfl; (with_reducible repeat (first | refine blk_drewN ?_ _ | refine blk_drew ?_ | refine blk_alloc ?_ _)); exact BK210016.out) hg (Kd.R_ne HO_8.out BK210016.out (by decide))); have n3_ := Aside0.mk (hb); have n4_ := Aside0.mk (ho); clear HO_7; clear HO_9; clear BK210016; clear HB; clear HO_8; have HO_7 := n0_; have HO_9 := n1_; have BK210016 := n2_; have HB := n3_; have HO210020 := n4_; clear n0_ n1_ n2_ n3_ n4_; clear ho hb hg hat))
           go_roundg k2
           case measure => have := HJ2.out; have := HK2.out; omega
           case rel => exact ⟨(x7_2), (y210018), (x9_2), (wrap64 (x10_2 + 1)), (by first | rfl | (simp; done) | (simp [*]; done)), H', ⟨by have := HJ2.out; have := HK2.out; omega⟩, ⟨by (with_reducible repeat (first | apply Kd.V_alloc | apply Kd.V_drewN | apply Kd.V_drew)); exact Kd.V_mono HO_7.out (fun _ hk => ⟨hk.1.1, ⟨hk.2, hk.1.2.1⟩⟩)⟩, ⟨by (with_reducible repeat (first | apply Kd.R_alloc | apply Kd.R_drewN | apply Kd.R_drew)); exact HO210020.out⟩, ⟨by (with_reducible repeat (first | apply Kd.R_alloc | apply Kd.R_drewN | apply Kd.R_drew)); exact HO_9.out⟩, ⟨by repeat (first | (with_reducible first | exact HB.out | apply below_alloc | apply pw_below_drewN | apply below_drew1 | refine below_set ?_ GE210016.out) | exact HB.out)⟩⟩
          ·rw [if_neg c27] at H
           exact absurd H (by simp)
         ·rw [if_neg c26] at H
          have c26b0 : (((rd_T46 l0 x10_2).f0) == 1) = false := beq_eq_false_iff_ne.mpr c26
          have c26b1 : (((rd_T46 l0 x10_2).f0) != 1) = true := bne_iff_ne.mpr c26
          (first | rw [c26b0] | (simp only [i64_w, i32_w]; rw [c26b0]) | skip)
          by_cases c29 : ((rd_T46 l0 x10_2).f0) = 4
          ·rw [if_pos c29] at H
           have c29b0 : (((rd_T46 l0 x10_2).f0) == 4) = true := beq_iff_eq.mpr c29
           have c29b1 : (((rd_T46 l0 x10_2).f0) != 4) = false := bne_eq_false_iff_eq.mpr c29
           clear c29
           by_cases c30 : t210017 < ((rd_T46 l0 x10_2).f2)
           ·rw [if_pos c30] at H
            have c30b0 : decide (t210017 < ((rd_T46 l0 x10_2).f2)) = true := decide_eq_true c30
            clear c30
            obtain ⟨y210021, hy210021⟩ : ∃ y_ : List Int, y_ = (([] : List Int)) := ⟨_, rfl⟩
            replace H : (some (1, y210021, (([] : List (S48))))) = some (r1, r2, r3) := by first | (rw [hy210021]; with_reducible exact H) | (have H2_ := (Option.bind_some _ _).symm.trans H; rw [hy210021]; with_reducible exact H2_) | (have H2_ := (Option.bind_some _ _).symm.trans H; with_reducible exact H2_) | with_reducible exact H | (rw [hy210021]; exact H) | exact H
            have Ny210021 := Aside0.mk hy210021
            clear hy210021
            obtain ⟨y210024, hy210024⟩ : ∃ y_ : List (S48), y_ = (([] : List (S48))) := ⟨_, rfl⟩
            replace H : (some (1, y210021, y210024)) = some (r1, r2, r3) := by first | (rw [hy210024]; with_reducible exact H) | (have H2_ := (Option.bind_some _ _).symm.trans H; rw [hy210024]; with_reducible exact H2_) | (have H2_ := (Option.bind_some _ _).symm.trans H; with_reducible exact H2_) | with_reducible exact H | (rw [hy210024]; exact H) | exact H
            have Ny210024 := Aside0.mk hy210024
            clear hy210024
            simp only [Option.some.injEq, Prod.mk.injEq] at H
            obtain ⟨rfl, rfl, rfl⟩ := H
            have hcz31_0 : w23.cell? ⟨gb210016, 0, none⟩ = some (.int .i64 0) := (blk_cell BK210016.out 0).trans rfl
            have hcz31_1 : w23.cell? ⟨gb210016, 1, none⟩ = some (.int .i64 0) := (blk_cell BK210016.out 1).trans rfl
            have hcz31_2 : w23.cell? ⟨gb210016, 2, none⟩ = some (.int .i64 0) := (blk_cell BK210016.out 2).trans rfl
            have hfz31_0 := blk_frozen BK210016.out 0
            have hfz31_1 := blk_frozen BK210016.out 1
            have hfz31_2 := blk_frozen BK210016.out 2
            go_wp2_with (first | ((with_reducible refine gate_dst (N := 56) rfl ?_); refine Kd.R_lit (Kd.int .i64) _ 3 ?hg (N := 56) ?hd (xs := ([] : List Int)) (inner := []) (ok := fun _ => True) (okp := fun _ => True) ?hr ?hp (fun _ hk => hk) trivial (Below.refl _ _) (Nat.le_refl _) (by simp) ?_; (case hd => rfl); (case hg => rfl); (case hr => first | (go_simp; done) | (go_simp; rfl)); (case hp => exact (Reps.none _ _)); intro v210022 w32 ho33 hb hg_ hnew_; clear hg_ hnew_; (first | rw [← Ny210021.out] at ho33 | (simp only [Int.reduceToNat] at ho33; rw [← Ny210021.out] at ho33)); have n0_ := Aside0.mk (Kd.V_elder' (by (with_reducible repeat (first | apply Kd.V_alloc | apply Kd.V_drewN | apply Kd.V_drew)); exact (Kd.V_mono (Kd.V_far (p := ⟨gb210016, 2, none⟩) (Kd.V_far (p := ⟨gb210016, 1, none⟩) (Kd.V_far (p := ⟨gb210016, 0, none⟩) (Kd.V_mono HO_7.out (fun k_ hk => (⟨hk, hk.2⟩ : _ ∧ k_ ≠ gb210016))) (fun _ hk => hk.2) (.int .i64 ((rd_T46 l0 x10_2).f0))) (fun _ hk => hk.2) (.int .i64 ((rd_T46 l0 x10_2).f1))) (fun _ hk => hk.2) (.int .i64 ((rd_T46 l0 x10_2).f2))) (fun _ h_ => h_.1))) (Kd.R_base ho33) hb); have n1_ := Aside0.mk (Kd.R_elder' (by (with_reducible repeat (first | apply Kd.R_alloc | apply Kd.R_drewN | apply Kd.R_drew)); exact (Kd.R_mono (Kd.R_far (p := ⟨gb210016, 2, none⟩) (Kd.R_far (p := ⟨gb210016, 1, none⟩) (Kd.R_far (p := ⟨gb210016, 0, none⟩) (Kd.R_types HO_8.out BK210016.out (by decide)) (fun _ hk => hk.2) (.int .i64 ((rd_T46 l0 x10_2).f0))) (fun _ hk => hk.2) (.int .i64 ((rd_T46 l0 x10_2).f1))) (fun _ hk => hk.2) (.int .i64 ((rd_T46 l0 x10_2).f2))) (fun _ h_ => h_.1))) (Kd.R_base ho33) hb); have n2_ := Aside0.mk (Kd.R_below (by (with_reducible repeat (first | apply Kd.R_alloc | apply Kd.R_drewN | apply Kd.R_drew)); exact (Kd.R_mono (Kd.R_far (p := ⟨gb210016, 2, none⟩) (Kd.R_far (p := ⟨gb210016, 1, none⟩) (Kd.R_far (p := ⟨gb210016, 0, none⟩) (Kd.R_types HO_9.out BK210016.out (by decide)) (fun _ hk => hk.2) (.int .i64 ((rd_T46 l0 x10_2).f0))) (fun _ hk => hk.2) (.int .i64 ((rd_T46 l0 x10_2).f1))) (fun _ hk => hk.2) (.int .i64 ((rd_T46 l0 x10_2).f2))) (fun _ h_ => h_.1))) hb); have n3_ := Aside0.mk (Kd.R_lower (Kd.R_new' (Kd.R_newM (M := fun k_ => (w.heap.size ≤ k_)) ho33 (below_size (by repeat (first | (with_reducible first | exact HB.out | apply below_alloc | apply pw_below_drewN | apply below_drew1 | refine below_set ?_ GE210016.out) | exact HB.out))) (fun k_ h_ => h_)) (Kd.R_lt (by (with_reducible repeat (first | apply Kd.R_alloc | apply Kd.R_drewN | apply Kd.R_drew)); exact (Kd.R_mono (Kd.R_far (p := ⟨gb210016, 2, none⟩) (Kd.R_far (p := ⟨gb210016, 1, none⟩) (Kd.R_far (p := ⟨gb210016, 0, none⟩) (Kd.R_types HO_8.out BK210016.out (by decide)) (fun _ hk => hk.2) (.int .i64 ((rd_T46 l0 x10_2).f0))) (fun _ hk => hk.2) (.int .i64 ((rd_T46 l0 x10_2).f1))) (fun _ hk => hk.2) (.int .i64 ((rd_T46 l0 x10_2).f2))) (fun _ h_ => h_.1))))) (below_size (by repeat (first | (with_reducible first | exact HB.out | apply below_alloc | apply pw_below_drewN | apply below_drew1 | refine below_set ?_ GE210016.out) | exact HB.out)))); have n4_ := Aside0.mk (blk_below (g := gb210016) (o := .cells #[.int .i64 ((rd_T46 l0 x10_2).f0), .int .i64 ((rd_T46 l0 x10_2).f1), .int .i64 ((rd_T46 l0 x10_2).f2)] 46 (0, 0)) (by (with_reducible repeat (first | refine blk_drewN ?_ _ | refine blk_drew ?_ | refine blk_alloc ?_ _)); refine blk_put (cs := #[.int .i64 ((rd_T46 l0 x10_2).f0), .int .i64 ((rd_T46 l0 x10_2).f1), .int .i64 0]) ?_ 2 _ rfl; (with_reducible repeat (first | refine blk_drewN ?_ _ | refine blk_drew ?_ | refine blk_alloc ?_ _)); refine blk_put (cs := #[.int .i64 ((rd_T46 l0 x10_2).f0), .int .i64 0, .int .i64 0]) ?_ 1 _ rfl; (with_reducible repeat (first | refine blk_drewN ?_ _ | refine blk_drew ?_ | refine blk_alloc ?_ _)); refine blk_put (cs := #[.int .i64 0, .int .i64 0, .int .i64 0]) ?_ 0 _ rfl; (with_reducible repeat (first | refine blk_drewN ?_ _ | refine blk_drew ?_ | refine blk_alloc ?_ _)); exact BK210016.out) hb); have n5_ := Aside0.mk (below_step (by repeat (first | (with_reducible first | exact HB.out | apply below_alloc | apply pw_below_drewN | apply below_drew1 | refine below_set ?_ GE210016.out) | exact HB.out)) hb); clear HO_7; clear HO_8; clear HO_9; clear BK210016; clear HB; have HO_7 := n0_; have HO_8 := n1_; have HO_9 := n2_; have HO210023 := n3_; have BK210016 := n4_; have HB := n5_; clear n0_ n1_ n2_ n3_ n4_ n5_; clear hb ho33) | ((with_reducible refine gate_dst (N := 57) rfl ?_); refine Kd.R_lit k48 _ 48 ?hg (N := 57) ?hd (xs := ([] : List (S48))) (inner := []) (ok := fun _ => True) (okp := fun _ => True) ?hr ?hp (fun _ hk => hk) trivial (Below.refl _ _) (Nat.le_refl _) (by simp) ?_; (case hd => rfl); (case hg => rfl); (case hr => first | (go_simp; done) | (go_simp; rfl)); (case hp => exact (Reps.none _ _)); intro v210025 w34 ho35 hb hg_ hnew_; clear hg_ hnew_; (first | rw [← Ny210024.out] at ho35 | (simp only [Int.reduceToNat] at ho35; rw [← Ny210024.out] at ho35)); have n0_ := Aside0.mk (Kd.V_elder' (by (with_reducible repeat (first | apply Kd.V_alloc | apply Kd.V_drewN | apply Kd.V_drew)); exact HO_7.out) (Kd.R_base ho35) hb); have n1_ := Aside0.mk (Kd.R_below (by (with_reducible repeat (first | apply Kd.R_alloc | apply Kd.R_drewN | apply Kd.R_drew)); exact HO_8.out) hb); have n2_ := Aside0.mk (Kd.R_elder' (by (with_reducible repeat (first | apply Kd.R_alloc | apply Kd.R_drewN | apply Kd.R_drew)); exact HO_9.out) (Kd.R_base ho35) hb); have n3_ := Aside0.mk (Kd.R_below (by (with_reducible repeat (first | apply Kd.R_alloc | apply Kd.R_drewN | apply Kd.R_drew)); exact HO210023.out) hb); have n4_ := Aside0.mk (Kd.R_lower (Kd.R_new' (Kd.R_newM (M := fun k_ => (w.heap.size ≤ k_)) ho35 (below_size (by repeat (first | (with_reducible first | exact HB.out | apply below_alloc | apply pw_below_drewN | apply below_drew1 | refine below_set ?_ GE210016.out) | exact HB.out))) (fun k_ h_ => h_)) (Kd.R_lt (by (with_reducible repeat (first | apply Kd.R_alloc | apply Kd.R_drewN | apply Kd.R_drew)); exact HO_9.out))) (below_size (by repeat (first | (with_reducible first | exact HB.out | apply below_alloc | apply pw_below_drewN | apply below_drew1 | refine below_set ?_ GE210016.out) | exact HB.out)))); have n5_ := Aside0.mk (blk_below (g := gb210016) (o := .cells #[.int .i64 ((rd_T46 l0 x10_2).f0), .int .i64 ((rd_T46 l0 x10_2).f1), .int .i64 ((rd_T46 l0 x10_2).f2)] 46 (0, 0)) (by (with_reducible repeat (first | refine blk_drewN ?_ _ | refine blk_drew ?_ | refine blk_alloc ?_ _)); exact BK210016.out) hb); have n6_ := Aside0.mk (below_step (by repeat (first | (with_reducible first | exact HB.out | apply below_alloc | apply pw_below_drewN | apply below_drew1 | refine below_set ?_ GE210016.out) | exact HB.out)) hb); clear HO_7; clear HO_8; clear HO_9; clear HO210023; clear BK210016; clear HB; have HO_7 := n0_; have HO_8 := n1_; have HO_9 := n2_; have HO210023 := n3_; have HO210026 := n4_; have BK210016 := n5_; have HB := n6_; clear n0_ n1_ n2_ n3_ n4_ n5_ n6_; clear hb ho35))
            go_ret3
            exact ⟨_, _, by first | rfl | (simp [errW_none, errW_some] <;> rfl) | (simp [*, errW_none, errW_some] <;> rfl), by (with_reducible repeat (first | apply Kd.R_alloc | apply Kd.R_drewN | apply Kd.R_drew)); exact Kd.R_mono HO210023.out (fun _ hk => hk.1.1), by (with_reducible repeat (first | apply Kd.R_alloc | apply Kd.R_drewN | apply Kd.R_drew)); exact Kd.R_mono HO210026.out (fun _ hk => hk.1.1), by repeat (first | (with_reducible first | exact HB.out | apply below_alloc | apply pw_below_drewN | apply below_drew1 | refine below_set ?_ GE210016.out) | exact HB.out)⟩
           ·rw [if_neg c30] at H
            have c30b0 : decide (t210017 < ((rd_T46 l0 x10_2).f2)) = false := decide_eq_false c30
            clear c30
            have H' := Aside0.mk H
            clear H
            have hcz36_0 : w23.cell? ⟨gb210016, 0, none⟩ = some (.int .i64 0) := (blk_cell BK210016.out 0).trans rfl
            have hcz36_1 : w23.cell? ⟨gb210016, 1, none⟩ = some (.int .i64 0) := (blk_cell BK210016.out 1).trans rfl
            have hcz36_2 : w23.cell? ⟨gb210016, 2, none⟩ = some (.int .i64 0) := (blk_cell BK210016.out 2).trans rfl
            have hfz36_0 := blk_frozen BK210016.out 0
            have hfz36_1 := blk_frozen BK210016.out 1
            have hfz36_2 := blk_frozen BK210016.out 2
            go_wp2
            go_roundg k2
            case measure => have := HJ2.out; have := HK2.out; omega
            case rel => exact ⟨(x7_2), (x8_2), (x9_2), (wrap64 (x10_2 + 1)), (by first | rfl | (simp; done) | (simp [*]; done)), H', ⟨by have := HJ2.out; have := HK2.out; omega⟩, ⟨by (with_reducible repeat (first | apply Kd.V_alloc | apply Kd.V_drewN | apply Kd.V_drew)); exact Kd.V_mono (Kd.V_far (p := ⟨gb210016, 2, none⟩) (Kd.V_far (p := ⟨gb210016, 1, none⟩) (Kd.V_far (p := ⟨gb210016, 0, none⟩) (Kd.V_mono HO_7.out (fun k_ hk => (⟨hk, hk.2⟩ : _ ∧ k_ ≠ gb210016))) (fun _ hk => hk.2) (.int .i64 ((rd_T46 l0 x10_2).f0))) (fun _ hk => hk.2) (.int .i64 ((rd_T46 l0 x10_2).f1))) (fun _ hk => hk.2) (.int .i64 ((rd_T46 l0 x10_2).f2))) (fun _ hk => ⟨hk.1.1.1, ⟨hk.1.1.2.1, hk.1.1.2.2⟩⟩)⟩, ⟨by (with_reducible repeat (first | apply Kd.R_alloc | apply Kd.R_drewN | apply Kd.R_drew)); exact Kd.R_mono (Kd.R_far (p := ⟨gb210016, 2, none⟩) (Kd.R_far (p := ⟨gb210016, 1, none⟩) (Kd.R_far (p := ⟨gb210016, 0, none⟩) (Kd.R_types HO_8.out BK210016.out (by decide)) (fun _ hk => hk.2) (.int .i64 ((rd_T46 l0 x10_2).f0))) (fun _ hk => hk.2) (.int .i64 ((rd_T46 l0 x10_2).f1))) (fun _ hk => hk.2) (.int .i64 ((rd_T46 l0 x10_2).f2))) (fun _ hk => hk.1)⟩, ⟨by (with_reducible repeat (first | apply Kd.R_alloc | apply Kd.R_drewN | apply Kd.R_drew)); exact Kd.R_mono (Kd.R_far (p := ⟨gb210016, 2, none⟩) (Kd.R_far (p := ⟨gb210016, 1, none⟩) (Kd.R_far (p := ⟨gb210016, 0, none⟩) (Kd.R_types HO_9.out BK210016.out (by decide)) (fun _ hk => hk.2) (.int .i64 ((rd_T46 l0 x10_2).f0))) (fun _ hk => hk.2) (.int .i64 ((rd_T46 l0 x10_2).f1))) (fun _ hk => hk.2) (.int .i64 ((rd_T46 l0 x10_2).f2))) (fun _ hk => hk.1)⟩, ⟨by repeat (first | (with_reducible first | exact HB.out | apply below_alloc | apply pw_below_drewN | apply below_drew1 | refine below_set ?_ GE210016.out) | exact HB.out)⟩⟩
          ·rw [if_neg c29] at H
           have c29b0 : (((rd_T46 l0 x10_2).f0) == 4) = false := beq_eq_false_iff_ne.mpr c29
           have c29b1 : (((rd_T46 l0 x10_2).f0) != 4) = true := bne_iff_ne.mpr c29
           by_cases c37 : ((rd_T46 l0 x10_2).f0) = 3
           ·rw [if_pos c37] at H
            have c37b0 : (((rd_T46 l0 x10_2).f0) == 3) = true := beq_iff_eq.mpr c37
            have c37b1 : (((rd_T46 l0 x10_2).f0) != 3) = false := bne_eq_false_iff_eq.mpr c37
            clear c37
            have H' := Aside0.mk H
            clear H
            have hcz38_0 : w23.cell? ⟨gb210016, 0, none⟩ = some (.int .i64 0) := (blk_cell BK210016.out 0).trans rfl
            have hcz38_1 : w23.cell? ⟨gb210016, 1, none⟩ = some (.int .i64 0) := (blk_cell BK210016.out 1).trans rfl
            have hcz38_2 : w23.cell? ⟨gb210016, 2, none⟩ = some (.int .i64 0) := (blk_cell BK210016.out 2).trans rfl
            have hfz38_0 := blk_frozen BK210016.out 0
            have hfz38_1 := blk_frozen BK210016.out 1
            have hfz38_2 := blk_frozen BK210016.out 2
            go_wp2
            go_meet
            case rel => exact ⟨_, (x8_2), (wrap64 (t210017 + ((rd_T46 l0 x10_2).f2))), (by first | rfl | (simp; done) | (simp [*]; done)), H', ⟨by have := HJ2.out; have := HK2.out; first | omega | exact Nat.le_refl _⟩, ⟨by (with_reducible repeat (first | apply Kd.V_alloc | apply Kd.V_drewN | apply Kd.V_drew)); exact Kd.V_mono (Kd.V_far (p := ⟨gb210016, 2, none⟩) (Kd.V_far (p := ⟨gb210016, 1, none⟩) (Kd.V_far (p := ⟨gb210016, 0, none⟩) (Kd.V_mono HO_7.out (fun k_ hk => (⟨hk, hk.2⟩ : _ ∧ k_ ≠ gb210016))) (fun _ hk => hk.2) (.int .i64 ((rd_T46 l0 x10_2).f0))) (fun _ hk => hk.2) (.int .i64 ((rd_T46 l0 x10_2).f1))) (fun _ hk => hk.2) (.int .i64 ((rd_T46 l0 x10_2).f2))) (fun _ hk => ⟨hk.1.1.1, ⟨hk.1.1.2.1, ⟨hk.1.1.2.2, hk.1.2⟩⟩⟩)⟩, ⟨by (with_reducible repeat (first | apply Kd.R_alloc | apply Kd.R_drewN | apply Kd.R_drew)); exact Kd.R_mono (Kd.R_far (p := ⟨gb210016, 2, none⟩) (Kd.R_far (p := ⟨gb210016, 1, none⟩) (Kd.R_far (p := ⟨gb210016, 0, none⟩) (Kd.R_types HO_8.out BK210016.out (by decide)) (fun _ hk => hk.2) (.int .i64 ((rd_T46 l0 x10_2).f0))) (fun _ hk => hk.2) (.int .i64 ((rd_T46 l0 x10_2).f1))) (fun _ hk => hk.2) (.int .i64 ((rd_T46 l0 x10_2).f2))) (fun _ hk => hk.1)⟩, ⟨by (with_reducible repeat (first | apply Kd.R_alloc | apply Kd.R_drewN | apply Kd.R_drew)); exact Kd.R_mono (Kd.R_far (p := ⟨gb210016, 2, none⟩) (Kd.R_far (p := ⟨gb210016, 1, none⟩) (Kd.R_far (p := ⟨gb210016, 0, none⟩) (Kd.R_types HO_9.out BK210016.out (by decide)) (fun _ hk => hk.2) (.int .i64 ((rd_T46 l0 x10_2).f0))) (fun _ hk => hk.2) (.int .i64 ((rd_T46 l0 x10_2).f1))) (fun _ hk => hk.2) (.int .i64 ((rd_T46 l0 x10_2).f2))) (fun _ hk => hk.1)⟩, ⟨by (with_reducible repeat (first | refine blk_drewN ?_ _ | refine blk_drew ?_ | refine blk_alloc ?_ _)); refine blk_put (cs := #[.int .i64 ((rd_T46 l0 x10_2).f0), .int .i64 ((rd_T46 l0 x10_2).f1), .int .i64 0]) ?_ 2 _ rfl; (with_reducible repeat (first | refine blk_drewN ?_ _ | refine blk_drew ?_ | refine blk_alloc ?_ _)); refine blk_put (cs := #[.int .i64 ((rd_T46 l0 x10_2).f0), .int .i64 0, .int .i64 0]) ?_ 1 _ rfl; (with_reducible repeat (first | refine blk_drewN ?_ _ | refine blk_drew ?_ | refine blk_alloc ?_ _)); refine blk_put (cs := #[.int .i64 0, .int .i64 0, .int .i64 0]) ?_ 0 _ rfl; (with_reducible repeat (first | refine blk_drewN ?_ _ | refine blk_drew ?_ | refine blk_alloc ?_ _)); exact BK210016.out⟩, ⟨by repeat (first | (with_reducible first | exact HB.out | apply below_alloc | apply pw_below_drewN | apply below_drew1 | refine below_set ?_ GE210016.out) | exact HB.out)⟩⟩
           ·rw [if_neg c37] at H
            have c37b0 : (((rd_T46 l0 x10_2).f0) == 3) = false := beq_eq_false_iff_ne.mpr c37
            have c37b1 : (((rd_T46 l0 x10_2).f0) != 3) = true := bne_iff_ne.mpr c37
            have H' := Aside0.mk H
            clear H
            have hcz39_0 : w23.cell? ⟨gb210016, 0, none⟩ = some (.int .i64 0) := (blk_cell BK210016.out 0).trans rfl
            have hcz39_1 : w23.cell? ⟨gb210016, 1, none⟩ = some (.int .i64 0) := (blk_cell BK210016.out 1).trans rfl
            have hcz39_2 : w23.cell? ⟨gb210016, 2, none⟩ = some (.int .i64 0) := (blk_cell BK210016.out 2).trans rfl
            have hfz39_0 := blk_frozen BK210016.out 0
            have hfz39_1 := blk_frozen BK210016.out 1
            have hfz39_2 := blk_frozen BK210016.out 2
            go_wp2
            go_meet
            case rel => exact ⟨_, (x8_2), ((rd_T46 l0 x10_2).f2), (by first | rfl | (simp; done) | (simp [*]; done)), H', ⟨by have := HJ2.out; have := HK2.out; first | omega | exact Nat.le_refl _⟩, ⟨by (with_reducible repeat (first | apply Kd.V_alloc | apply Kd.V_drewN | apply Kd.V_drew)); exact Kd.V_mono (Kd.V_far (p := ⟨gb210016, 2, none⟩) (Kd.V_far (p := ⟨gb210016, 1, none⟩) (Kd.V_far (p := ⟨gb210016, 0, none⟩) (Kd.V_mono HO_7.out (fun k_ hk => (⟨hk, hk.2⟩ : _ ∧ k_ ≠ gb210016))) (fun _ hk => hk.2) (.int .i64 ((rd_T46 l0 x10_2).f0))) (fun _ hk => hk.2) (.int .i64 ((rd_T46 l0 x10_2).f1))) (fun _ hk => hk.2) (.int .i64 ((rd_T46 l0 x10_2).f2))) (fun _ hk => ⟨hk.1.1.1, ⟨hk.1.1.2.1, ⟨hk.1.1.2.2, hk.1.2⟩⟩⟩)⟩, ⟨by (with_reducible repeat (first | apply Kd.R_alloc | apply Kd.R_drewN | apply Kd.R_drew)); exact Kd.R_mono (Kd.R_far (p := ⟨gb210016, 2, none⟩) (Kd.R_far (p := ⟨gb210016, 1, none⟩) (Kd.R_far (p := ⟨gb210016, 0, none⟩) (Kd.R_types HO_8.out BK210016.out (by decide)) (fun _ hk => hk.2) (.int .i64 ((rd_T46 l0 x10_2).f0))) (fun _ hk => hk.2) (.int .i64 ((rd_T46 l0 x10_2).f1))) (fun _ hk => hk.2) (.int .i64 ((rd_T46 l0 x10_2).f2))) (fun _ hk => hk.1)⟩, ⟨by (with_reducible repeat (first | apply Kd.R_alloc | apply Kd.R_drewN | apply Kd.R_drew)); exact Kd.R_mono (Kd.R_far (p := ⟨gb210016, 2, none⟩) (Kd.R_far (p := ⟨gb210016, 1, none⟩) (Kd.R_far (p := ⟨gb210016, 0, none⟩) (Kd.R_types HO_9.out BK210016.out (by decide)) (fun _ hk => hk.2) (.int .i64 ((rd_T46 l0 x10_2).f0))) (fun _ hk => hk.2) (.int .i64 ((rd_T46 l0 x10_2).f1))) (fun _ hk => hk.2) (.int .i64 ((rd_T46 l0 x10_2).f2))) (fun _ hk => hk.1)⟩, ⟨by (with_reducible repeat (first | refine blk_drewN ?_ _ | refine blk_drew ?_ | refine blk_alloc ?_ _)); refine blk_put (cs := #[.int .i64 ((rd_T46 l0 x10_2).f0), .int .i64 ((rd_T46 l0 x10_2).f1), .int .i64 0]) ?_ 2 _ rfl; (with_reducible repeat (first | refine blk_drewN ?_ _ | refine blk_drew ?_ | refine blk_alloc ?_ _)); refine blk_put (cs := #[.int .i64 ((rd_T46 l0 x10_2).f0), .int .i64 0, .int .i64 0]) ?_ 1 _ rfl; (with_reducible repeat (first | refine blk_drewN ?_ _ | refine blk_drew ?_ | refine blk_alloc ?_ _)); refine blk_put (cs := #[.int .i64 0, .int .i64 0, .int .i64 0]) ?_ 0 _ rfl; (with_reducible repeat (first | refine blk_drewN ?_ _ | refine blk_drew ?_ | refine blk_alloc ?_ _)); exact BK210016.out⟩, ⟨by repeat (first | (with_reducible first | exact HB.out | apply below_alloc | apply pw_below_drewN | apply below_drew1 | refine below_set ?_ GE210016.out) | exact HB.out)⟩⟩
        case rest =>
         clear HC22
         try clear c1
         try clear c2
         try clear p2
         try clear q2
         try clear hx2
         try clear c3
         try clear c5
         try clear p6
         try clear c10
         try clear c15
         try clear c19
         try clear c19b0
         try clear c20
         try clear c20b0
         try clear p21
         try clear q21
         try clear hx21
         try clear c26
         try clear c26b0
         try clear c26b1
         try clear c27
         try clear c29
         try clear c29b0
         try clear c29b1
         try clear c30
         try clear c30b0
         try clear c37
         try clear c37b0
         try clear c37b1
         try clear hcz24_0
         try clear hcz24_1
         try clear hcz24_2
         try clear hcz31_0
         try clear hcz31_1
         try clear hcz31_2
         try clear hcz36_0
         try clear hcz36_1
         try clear hcz36_2
         try clear hcz38_0
         try clear hcz38_1
         try clear hcz38_2
         try clear hcz39_0
         try clear hcz39_1
         try clear hcz39_2
         try clear hfz24_0
         try clear hfz24_1
         try clear hfz24_2
         try clear hfz31_0
         try clear hfz31_1
         try clear hfz31_2
         try clear hfz36_0
         try clear hfz36_1
         try clear hfz36_2
         try clear hfz38_0
         try clear hfz38_1
         try clear hfz38_2
         try clear hfz39_0
         try clear hfz39_1
         try clear hfz39_2
         try clear hx210015_0
         try clear hx210015_1
         try clear hx210015_2
         try clear p2
         try clear p210015
         try clear q210015
         obtain ⟨kq, x8_21, x12_21, rfl, HA, HJ21, HO_7, HO_8, HO_9, BK210016, HB⟩ := hcut
         cases kq with
         | zero => exact absurd HA.out (by simp [spec_DealRun.j2])
         | succ kj21 =>
          have H := HA.out
          clear HA
          simp only [spec_DealRun.j2] at H
          replace H := Option.bind_eq_some_iff.mp H
          obtain ⟨t210027, A400, H⟩ := H
          replace H : (if t210027 = true then ((spec_l1Set.f kj21 x7_2 ((rd_T46 l0 x10_2).f1) x12_21).bind fun t210028 => ((spec_l1Set.f kj21 x9_2 ((rd_T46 l0 x10_2).f1) x12_21).bind fun t210031 => (spec_DealRun.l0 kj21 l0 t210028 x8_21 t210031 (wrap64 (x10_2 + 1))))) else (some (2, (([] : List Int)), (([] : List (S48)))))) = some (r1, r2, r3) := H
          have A40 := Aside0.mk A400
          clear A400
          by_cases c41 : t210027 = true
          ·subst c41
           have H1 : ((spec_l1Set.f kj21 x7_2 ((rd_T46 l0 x10_2).f1) x12_21).bind fun t210028 => ((spec_l1Set.f kj21 x9_2 ((rd_T46 l0 x10_2).f1) x12_21).bind fun t210031 => (spec_DealRun.l0 kj21 l0 t210028 x8_21 t210031 (wrap64 (x10_2 + 1))))) = some (r1, r2, r3) := by rw [if_pos rfl] at H; exact H
           clear H
           have H := H1
           clear H1
           replace H := Option.bind_eq_some_iff.mp H
           obtain ⟨t210028, A420, H⟩ := H
           replace H : ((spec_l1Set.f kj21 x9_2 ((rd_T46 l0 x10_2).f1) x12_21).bind fun t210031 => (spec_DealRun.l0 kj21 l0 t210028 x8_21 t210031 (wrap64 (x10_2 + 1)))) = some (r1, r2, r3) := H
           have A42 := Aside0.mk A420
           clear A420
           replace H := Option.bind_eq_some_iff.mp H
           obtain ⟨t210031, A430, H⟩ := H
           replace H : (spec_DealRun.l0 kj21 l0 t210028 x8_21 t210031 (wrap64 (x10_2 + 1))) = some (r1, r2, r3) := H
           have A43 := Aside0.mk A430
           clear A430
           have H' := Aside0.mk H
           clear H
           go_wp2_with (first | ((with_reducible refine gate_callee (f := 45) rfl ?_); refine goesL_ (some 65) rfl rfl Try.func45 (by kernel_rfl) rfl #[.int .i64 x12_21] rfl (by (try simp only [List.map_toArray, List.map_cons, List.map_nil]); first | done | rfl | (simp only [List.length_drop, List.length_take]; rfl)) ?_; (with_reducible refine (spec_l1Val.calls x12_21 true _ A40.out).mono ?_); rintro e w' ⟨rfl, ⟨nd, rfl⟩⟩; refine ⟨_, rfl, ?_⟩; have hcz44_0 : wc.cell? ⟨gb210016, 0, none⟩ = some (.int .i64 ((rd_T46 l0 x10_2).f0)) := (blk_cell BK210016.out 0).trans rfl; have hcz44_1 : wc.cell? ⟨gb210016, 1, none⟩ = some (.int .i64 ((rd_T46 l0 x10_2).f1)) := (blk_cell BK210016.out 1).trans rfl; have hcz44_2 : wc.cell? ⟨gb210016, 2, none⟩ = some (.int .i64 ((rd_T46 l0 x10_2).f2)) := (blk_cell BK210016.out 2).trans rfl; have hfz44_0 := blk_frozen BK210016.out 0; have hfz44_1 := blk_frozen BK210016.out 1; have hfz44_2 := blk_frozen BK210016.out 2) | ((with_reducible refine gate_callee (f := 51) rfl ?_); refine goesL_ (some 73) rfl rfl Try.func51 (by kernel_rfl) rfl #[.slice Ao25 x7_2.length co25, .int .i64 ((rd_T46 l0 x10_2).f1), .int .i64 x12_21] rfl (by (try simp only [List.map_toArray, List.map_cons, List.map_nil]); first | done | rfl | (simp only [List.length_drop, List.length_take]; rfl)) ?_; (with_reducible refine (spec_l1Set.calls kj21 _ _ x7_2 ((rd_T46 l0 x10_2).f1) x12_21 t210028 _ ?side1 ?side2 A42.out).mono ?_); (case side1 => repeat (first | exact (Kd.V_reads' HO_7.out).2.2 | (with_reducible refine Kd.C_alloc ?_ _) | (with_reducible refine Kd.C_drewN ?_ _) | (with_reducible refine Kd.C_drew ?_))); (case side2 => exact (Kd.V_reads' HO_7.out).2.1); rintro e w45 ⟨v210029, rfl, ho0, hb⟩; refine ⟨_, rfl, ?_⟩; have n0_ := Aside0.mk (Kd.V_elder' (by (with_reducible repeat (first | apply Kd.V_alloc | apply Kd.V_drewN | apply Kd.V_drew)); exact HO_7.out) (Kd.R_base ho0) hb); have n1_ := Aside0.mk (Kd.R_below (by (with_reducible repeat (first | apply Kd.R_alloc | apply Kd.R_drewN | apply Kd.R_drew)); exact HO_8.out) hb); have n2_ := Aside0.mk (Kd.R_elder' (by (with_reducible repeat (first | apply Kd.R_alloc | apply Kd.R_drewN | apply Kd.R_drew)); exact HO_9.out) (Kd.R_base ho0) hb); have n3_ := Aside0.mk (Kd.R_lower (Kd.R_new' (Kd.R_newM (M := fun k_ => (w.heap.size ≤ k_)) ho0 (below_size (by repeat (first | (with_reducible first | exact HB.out | apply below_alloc | apply pw_below_drewN | apply below_drew1 | refine below_set ?_ GE210016.out) | exact HB.out))) (fun k_ h_ => h_)) (Kd.R_lt (by (with_reducible repeat (first | apply Kd.R_alloc | apply Kd.R_drewN | apply Kd.R_drew)); exact HO_9.out))) (below_size (by repeat (first | (with_reducible first | exact HB.out | apply below_alloc | apply pw_below_drewN | apply below_drew1 | refine below_set ?_ GE210016.out) | exact HB.out)))); have n4_ := Aside0.mk (blk_below (g := gb210016) (o := .cells #[.int .i64 ((rd_T46 l0 x10_2).f0), .int .i64 ((rd_T46 l0 x10_2).f1), .int .i64 ((rd_T46 l0 x10_2).f2)] 46 (0, 0)) (by (with_reducible repeat (first | refine blk_drewN ?_ _ | refine blk_drew ?_ | refine blk_alloc ?_ _)); exact BK210016.out) hb); have n5_ := Aside0.mk (below_step (by repeat (first | (with_reducible first | exact HB.out | apply below_alloc | apply pw_below_drewN | apply below_drew1 | refine below_set ?_ GE210016.out) | exact HB.out)) hb); clear HO_7; clear HO_8; clear HO_9; clear BK210016; clear HB; have HO_7 := n0_; have HO_8 := n1_; have HO_9 := n2_; have HO210030 := n3_; have BK210016 := n4_; have HB := n5_; clear n0_ n1_ n2_ n3_ n4_ n5_; (try clear hb); (try clear hb2); (try clear hk); (try clear hi); (try clear ho0); have hcz46_0 : w45.cell? ⟨gb210016, 0, none⟩ = some (.int .i64 ((rd_T46 l0 x10_2).f0)) := (blk_cell BK210016.out 0).trans rfl; have hcz46_1 : w45.cell? ⟨gb210016, 1, none⟩ = some (.int .i64 ((rd_T46 l0 x10_2).f1)) := (blk_cell BK210016.out 1).trans rfl; have hcz46_2 : w45.cell? ⟨gb210016, 2, none⟩ = some (.int .i64 ((rd_T46 l0 x10_2).f2)) := (blk_cell BK210016.out 2).trans rfl; have hfz46_0 := blk_frozen BK210016.out 0; have hfz46_1 := blk_frozen BK210016.out 1; have hfz46_2 := blk_frozen BK210016.out 2; obtain ⟨Ao47, co47, eo47⟩ := Kd.R_slice HO_9.out; subst eo47) | ((with_reducible refine gate_callee (f := 51) rfl ?_); refine goesL_ (some 78) rfl rfl Try.func51 (by kernel_rfl) rfl #[.slice Ao47 x9_2.length co47, .int .i64 ((rd_T46 l0 x10_2).f1), .int .i64 x12_21] rfl (by (try simp only [List.map_toArray, List.map_cons, List.map_nil]); first | done | rfl | (simp only [List.length_drop, List.length_take]; rfl)) ?_; (with_reducible refine (spec_l1Set.calls kj21 _ _ x9_2 ((rd_T46 l0 x10_2).f1) x12_21 t210031 _ ?side1 ?side2 A43.out).mono ?_); (case side1 => repeat (first | exact (Kd.R_reads' HO_9.out).2.2 | (with_reducible refine Kd.C_alloc ?_ _) | (with_reducible refine Kd.C_drewN ?_ _) | (with_reducible refine Kd.C_drew ?_))); (case side2 => exact (Kd.R_reads' HO_9.out).2.1); rintro e w48 ⟨v210032, rfl, ho0, hb⟩; refine ⟨_, rfl, ?_⟩; have n0_ := Aside0.mk (Kd.V_elder' (by (with_reducible repeat (first | apply Kd.V_alloc | apply Kd.V_drewN | apply Kd.V_drew)); exact HO_7.out) (Kd.R_base ho0) hb); have n1_ := Aside0.mk (Kd.R_below (by (with_reducible repeat (first | apply Kd.R_alloc | apply Kd.R_drewN | apply Kd.R_drew)); exact HO_8.out) hb); have n2_ := Aside0.mk (Kd.R_elder' (by (with_reducible repeat (first | apply Kd.R_alloc | apply Kd.R_drewN | apply Kd.R_drew)); exact HO_9.out) (Kd.R_base ho0) hb); have n3_ := Aside0.mk (Kd.R_elder' (by (with_reducible repeat (first | apply Kd.R_alloc | apply Kd.R_drewN | apply Kd.R_drew)); exact HO210030.out) (Kd.R_base ho0) hb); have n4_ := Aside0.mk (Kd.R_lower (Kd.R_new' (Kd.R_new' (Kd.R_newM (M := fun k_ => (w.heap.size ≤ k_)) ho0 (below_size (by repeat (first | (with_reducible first | exact HB.out | apply below_alloc | apply pw_below_drewN | apply below_drew1 | refine below_set ?_ GE210016.out) | exact HB.out))) (fun k_ h_ => h_)) (Kd.R_lt (by (with_reducible repeat (first | apply Kd.R_alloc | apply Kd.R_drewN | apply Kd.R_drew)); exact HO_9.out))) (Kd.R_lt (by (with_reducible repeat (first | apply Kd.R_alloc | apply Kd.R_drewN | apply Kd.R_drew)); exact HO210030.out))) (below_size (by repeat (first | (with_reducible first | exact HB.out | apply below_alloc | apply pw_below_drewN | apply below_drew1 | refine below_set ?_ GE210016.out) | exact HB.out)))); have n5_ := Aside0.mk (blk_below (g := gb210016) (o := .cells #[.int .i64 ((rd_T46 l0 x10_2).f0), .int .i64 ((rd_T46 l0 x10_2).f1), .int .i64 ((rd_T46 l0 x10_2).f2)] 46 (0, 0)) (by (with_reducible repeat (first | refine blk_drewN ?_ _ | refine blk_drew ?_ | refine blk_alloc ?_ _)); exact BK210016.out) hb); have n6_ := Aside0.mk (below_step (by repeat (first | (with_reducible first | exact HB.out | apply below_alloc | apply pw_below_drewN | apply below_drew1 | refine below_set ?_ GE210016.out) | exact HB.out)) hb); clear HO_7; clear HO_8; clear HO_9; clear HO210030; clear BK210016; clear HB; have HO_7 := n0_; have HO_8 := n1_; have HO_9 := n2_; have HO210030 := n3_; have HO210033 := n4_; have BK210016 := n5_; have HB := n6_; clear n0_ n1_ n2_ n3_ n4_ n5_ n6_; (try clear hb); (try clear hb2); (try clear hk); (try clear hi); (try clear ho0)))
           go_roundg kj21
           case measure => have := HJ2.out; have := HK2.out; have := HJ21.out; omega
           case rel => exact ⟨(t210028), (x8_21), (t210031), (wrap64 (x10_2 + 1)), (by first | rfl | (simp; done) | (simp [*]; done)), H', ⟨by have := HJ2.out; have := HK2.out; have := HJ21.out; omega⟩, ⟨Kd.V_mono (Kd.R_V (by (with_reducible repeat (first | apply Kd.R_alloc | apply Kd.R_drewN | apply Kd.R_drew)); exact Kd.R_mono (ok' := fun k_ => w.heap.size ≤ k_ ∧ some k_ ≠ _ ∧ some k_ ≠ _) (Kd.R_apart' HO210030.out (Kd.R_typed HO_8.out) (by decide)) (fun _ hk => ⟨hk.1.1.1.1, ⟨hk.2, hk.1.2⟩⟩))) (fun k_ hk => by first | exact ⟨(.inr (hk.1)), hk.2⟩ | exact (.inr (hk)))⟩, ⟨by (with_reducible repeat (first | apply Kd.R_alloc | apply Kd.R_drewN | apply Kd.R_drew)); exact HO_8.out⟩, ⟨by (with_reducible repeat (first | apply Kd.R_alloc | apply Kd.R_drewN | apply Kd.R_drew)); exact Kd.R_mono HO210033.out (fun _ hk => hk.1.1.1)⟩, ⟨by repeat (first | (with_reducible first | exact HB.out | apply below_alloc | apply pw_below_drewN | apply below_drew1 | refine below_set ?_ GE210016.out) | exact HB.out)⟩⟩
          ·replace c41 := Bool.eq_false_iff.mpr c41
           subst c41
           have H1 : (some (2, (([] : List Int)), (([] : List (S48))))) = some (r1, r2, r3) := by rw [if_neg (show ¬ (false = true) by decide)] at H; exact H
           clear H
           have H := H1
           clear H1
           obtain ⟨y210034, hy210034⟩ : ∃ y_ : List Int, y_ = (([] : List Int)) := ⟨_, rfl⟩
           replace H : (some (2, y210034, (([] : List (S48))))) = some (r1, r2, r3) := by first | (rw [hy210034]; with_reducible exact H) | (have H2_ := (Option.bind_some _ _).symm.trans H; rw [hy210034]; with_reducible exact H2_) | (have H2_ := (Option.bind_some _ _).symm.trans H; with_reducible exact H2_) | with_reducible exact H | (rw [hy210034]; exact H) | exact H
           have Ny210034 := Aside0.mk hy210034
           clear hy210034
           obtain ⟨y210037, hy210037⟩ : ∃ y_ : List (S48), y_ = (([] : List (S48))) := ⟨_, rfl⟩
           replace H : (some (2, y210034, y210037)) = some (r1, r2, r3) := by first | (rw [hy210037]; with_reducible exact H) | (have H2_ := (Option.bind_some _ _).symm.trans H; rw [hy210037]; with_reducible exact H2_) | (have H2_ := (Option.bind_some _ _).symm.trans H; with_reducible exact H2_) | with_reducible exact H | (rw [hy210037]; exact H) | exact H
           have Ny210037 := Aside0.mk hy210037
           clear hy210037
           simp only [Option.some.injEq, Prod.mk.injEq] at H
           obtain ⟨rfl, rfl, rfl⟩ := H
           go_wp2_with (first | ((with_reducible refine gate_callee (f := 45) rfl ?_); refine goesL_ (some 65) rfl rfl Try.func45 (by kernel_rfl) rfl #[.int .i64 x12_21] rfl (by (try simp only [List.map_toArray, List.map_cons, List.map_nil]); first | done | rfl | (simp only [List.length_drop, List.length_take]; rfl)) ?_; (with_reducible refine (spec_l1Val.calls x12_21 false _ A40.out).mono ?_); rintro e w' ⟨rfl, ⟨nd, rfl⟩⟩; refine ⟨_, rfl, ?_⟩) | ((with_reducible refine gate_dst (N := 67) rfl ?_); refine Kd.R_lit (Kd.int .i64) _ 3 ?hg (N := 67) ?hd (xs := ([] : List Int)) (inner := []) (ok := fun _ => True) (okp := fun _ => True) ?hr ?hp (fun _ hk => hk) trivial (Below.refl _ _) (Nat.le_refl _) (by simp) ?_; (case hd => rfl); (case hg => rfl); (case hr => first | (go_simp; done) | (go_simp; rfl)); (case hp => exact (Reps.none _ _)); intro v210035 w49 ho50 hb hg_ hnew_; clear hg_ hnew_; (first | rw [← Ny210034.out] at ho50 | (simp only [Int.reduceToNat] at ho50; rw [← Ny210034.out] at ho50)); have n0_ := Aside0.mk (Kd.V_elder' (by (with_reducible repeat (first | apply Kd.V_alloc | apply Kd.V_drewN | apply Kd.V_drew)); exact HO_7.out) (Kd.R_base ho50) hb); have n1_ := Aside0.mk (Kd.R_elder' (by (with_reducible repeat (first | apply Kd.R_alloc | apply Kd.R_drewN | apply Kd.R_drew)); exact HO_8.out) (Kd.R_base ho50) hb); have n2_ := Aside0.mk (Kd.R_below (by (with_reducible repeat (first | apply Kd.R_alloc | apply Kd.R_drewN | apply Kd.R_drew)); exact HO_9.out) hb); have n3_ := Aside0.mk (Kd.R_lower (Kd.R_new' (Kd.R_newM (M := fun k_ => (w.heap.size ≤ k_)) ho50 (below_size (by repeat (first | (with_reducible first | exact HB.out | apply below_alloc | apply pw_below_drewN | apply below_drew1 | refine below_set ?_ GE210016.out) | exact HB.out))) (fun k_ h_ => h_)) (Kd.R_lt (by (with_reducible repeat (first | apply Kd.R_alloc | apply Kd.R_drewN | apply Kd.R_drew)); exact HO_8.out))) (below_size (by repeat (first | (with_reducible first | exact HB.out | apply below_alloc | apply pw_below_drewN | apply below_drew1 | refine below_set ?_ GE210016.out) | exact HB.out)))); have n4_ := Aside0.mk (blk_below (g := gb210016) (o := .cells #[.int .i64 ((rd_T46 l0 x10_2).f0), .int .i64 ((rd_T46 l0 x10_2).f1), .int .i64 ((rd_T46 l0 x10_2).f2)] 46 (0, 0)) (by (with_reducible repeat (first | refine blk_drewN ?_ _ | refine blk_drew ?_ | refine blk_alloc ?_ _)); exact BK210016.out) hb); have n5_ := Aside0.mk (below_step (by repeat (first | (with_reducible first | exact HB.out | apply below_alloc | apply pw_below_drewN | apply below_drew1 | refine below_set ?_ GE210016.out) | exact HB.out)) hb); clear HO_7; clear HO_8; clear HO_9; clear BK210016; clear HB; have HO_7 := n0_; have HO_8 := n1_; have HO_9 := n2_; have HO210036 := n3_; have BK210016 := n4_; have HB := n5_; clear n0_ n1_ n2_ n3_ n4_ n5_; clear hb ho50) | ((with_reducible refine gate_dst (N := 68) rfl ?_); refine Kd.R_lit k48 _ 48 ?hg (N := 68) ?hd (xs := ([] : List (S48))) (inner := []) (ok := fun _ => True) (okp := fun _ => True) ?hr ?hp (fun _ hk => hk) trivial (Below.refl _ _) (Nat.le_refl _) (by simp) ?_; (case hd => rfl); (case hg => rfl); (case hr => first | (go_simp; done) | (go_simp; rfl)); (case hp => exact (Reps.none _ _)); intro v210038 w51 ho52 hb hg_ hnew_; clear hg_ hnew_; (first | rw [← Ny210037.out] at ho52 | (simp only [Int.reduceToNat] at ho52; rw [← Ny210037.out] at ho52)); have n0_ := Aside0.mk (Kd.V_elder' (by (with_reducible repeat (first | apply Kd.V_alloc | apply Kd.V_drewN | apply Kd.V_drew)); exact HO_7.out) (Kd.R_base ho52) hb); have n1_ := Aside0.mk (Kd.R_below (by (with_reducible repeat (first | apply Kd.R_alloc | apply Kd.R_drewN | apply Kd.R_drew)); exact HO_8.out) hb); have n2_ := Aside0.mk (Kd.R_elder' (by (with_reducible repeat (first | apply Kd.R_alloc | apply Kd.R_drewN | apply Kd.R_drew)); exact HO_9.out) (Kd.R_base ho52) hb); have n3_ := Aside0.mk (Kd.R_below (by (with_reducible repeat (first | apply Kd.R_alloc | apply Kd.R_drewN | apply Kd.R_drew)); exact HO210036.out) hb); have n4_ := Aside0.mk (Kd.R_lower (Kd.R_new' (Kd.R_newM (M := fun k_ => (w.heap.size ≤ k_)) ho52 (below_size (by repeat (first | (with_reducible first | exact HB.out | apply below_alloc | apply pw_below_drewN | apply below_drew1 | refine below_set ?_ GE210016.out) | exact HB.out))) (fun k_ h_ => h_)) (Kd.R_lt (by (with_reducible repeat (first | apply Kd.R_alloc | apply Kd.R_drewN | apply Kd.R_drew)); exact HO_9.out))) (below_size (by repeat (first | (with_reducible first | exact HB.out | apply below_alloc | apply pw_below_drewN | apply below_drew1 | refine below_set ?_ GE210016.out) | exact HB.out)))); have n5_ := Aside0.mk (blk_below (g := gb210016) (o := .cells #[.int .i64 ((rd_T46 l0 x10_2).f0), .int .i64 ((rd_T46 l0 x10_2).f1), .int .i64 ((rd_T46 l0 x10_2).f2)] 46 (0, 0)) (by (with_reducible repeat (first | refine blk_drewN ?_ _ | refine blk_drew ?_ | refine blk_alloc ?_ _)); exact BK210016.out) hb); have n6_ := Aside0.mk (below_step (by repeat (first | (with_reducible first | exact HB.out | apply below_alloc | apply pw_below_drewN | apply below_drew1 | refine below_set ?_ GE210016.out) | exact HB.out)) hb); clear HO_7; clear HO_8; clear HO_9; clear HO210036; clear BK210016; clear HB; have HO_7 := n0_; have HO_8 := n1_; have HO_9 := n2_; have HO210036 := n3_; have HO210039 := n4_; have BK210016 := n5_; have HB := n6_; clear n0_ n1_ n2_ n3_ n4_ n5_ n6_; clear hb ho52))
           go_ret3
           exact ⟨_, _, by first | rfl | (simp [errW_none, errW_some] <;> rfl) | (simp [*, errW_none, errW_some] <;> rfl), by (with_reducible repeat (first | apply Kd.R_alloc | apply Kd.R_drewN | apply Kd.R_drew)); exact Kd.R_mono HO210036.out (fun _ hk => hk.1.1), by (with_reducible repeat (first | apply Kd.R_alloc | apply Kd.R_drewN | apply Kd.R_drew)); exact Kd.R_mono HO210039.out (fun _ hk => hk.1.1), by repeat (first | (with_reducible first | exact HB.out | apply below_alloc | apply pw_below_drewN | apply below_drew1 | refine below_set ?_ GE210016.out) | exact HB.out)⟩
       ·rw [if_neg c20] at H
        exact absurd H (by simp)
      ·rw [if_neg c19] at H
       have c19b0 : decide (x10_2 < (l0.length : Int)) = false := decide_eq_false c19
       clear c19
       simp only [Option.some.injEq, Prod.mk.injEq] at H
       obtain ⟨rfl, rfl, rfl⟩ := H
       go_wp2
       go_ret3
       exact ⟨_, _, by first | rfl | (simp [errW_none, errW_some] <;> rfl) | (simp [*, errW_none, errW_some] <;> rfl), by (with_reducible repeat (first | apply Kd.R_alloc | apply Kd.R_drewN | apply Kd.R_drew)); exact HO_8.out, by (with_reducible repeat (first | apply Kd.R_alloc | apply Kd.R_drewN | apply Kd.R_drew)); exact HO_9.out, by repeat (first | (with_reducible first | exact HB.out | apply below_alloc | apply pw_below_drewN | apply below_drew1) | exact HB.out)⟩

end Go.Proofs.Ytdjiclhjficgfaa.PX
