import Derived.Test.YtbjdnfgalopfiaaPDx0
import Derived.Test.YtbjdnfgalopfiaaPDx4
import Derived.Test.YtbjdnfgalopfiaaPDx6
namespace Go.Proofs.Ytbjdnfgalopfiaa.PD
open Go.RowKit Go.Proofs.YtbjdnfgalopfiaaW.PrintWords Go.Proofs.YtbjdnfgalopfiaaW.PrintLast Go.Proofs.YtbjdnfgalopfiaaW.PrintMore
attribute [local go_sem] max2_int min2_int max_two min_two max_three min_three max_four min_four
set_option linter.unusedVariables false
set_option linter.unusedSimpArgs false

mutual
def spec_DealOk.j0 : Nat → List (S119) → Bool → Option (Bool)
 | 0, _, _ => none
 | k + 1, x0, x12 => if x12 = true then (some false) else (spec_DealOk.l0 k x0 0)
def spec_DealOk.l0 : Nat → List (S119) → Int → Option (Bool)
 | 0, _, _ => none
 | k + 1, x0, x3 => if x3 < (x0.length : Int) then (if 0 ≤ x3 then ((spec_l6In.f ((rd_T119 x0 x3).f0) 1 4).bind fun t730003 => (if t730003 = true then ((spec_l6In.f ((rd_T119 x0 x3).f1) 0 31).bind fun t730004 => (if t730004 = true then ((spec_l1Val.f ((rd_T119 x0 x3).f2)).bind fun t730005 => (if t730005 = true then (if ((rd_T119 x0 x3).f0) = 1 then (if ((rd_T119 x0 x3).f2) = 0 then (spec_DealOk.l0 k x0 (wrap64 (x3 + 1))) else (some false)) else (spec_DealOk.l0 k x0 (wrap64 (x3 + 1)))) else (some false))) else (some false))) else (some false))) else (none)) else (some true)
end
def spec_DealOk.f (k : Nat) (l0 : List (S119)) : Option (Bool) := if (l0.length : Int) < 1 then (spec_DealOk.j0 k l0 true) else (spec_DealOk.j0 k l0 (decide ((l0.length : Int) > 6)))
theorem spec_DealOk.mono_l : ∀ k, (∀ y0 y1, LeO (spec_DealOk.j0 k y0 y1) (spec_DealOk.j0 (k + 1) y0 y1)) ∧ (∀ y0 y1, LeO (spec_DealOk.l0 k y0 y1) (spec_DealOk.l0 (k + 1) y0 y1))
 | 0 => ⟨fun _ _ r h => by simp [spec_DealOk.j0] at h, fun _ _ r h => by simp [spec_DealOk.l0] at h⟩
 | k + 1 => by
  obtain ⟨ih0, ih1⟩ := spec_DealOk.mono_l k
  refine ⟨?_, ?_⟩
  ·intro y0 y1
   unfold spec_DealOk.j0
   repeat' first
   | (with_reducible exact ih0 _ _)
   | (with_reducible exact ih1 _ _)
   | (with_reducible exact LeO.refl _)
   | (with_reducible exact LeO.none _)
   | (with_reducible refine LeO.ite ?_ ?_)
   | (with_reducible refine LeO.bind ?_ (fun _ => ?_))
   | exact ih0 _ _
   | exact ih1 _ _
   | exact LeO.none _
   | refine LeO.ite ?_ ?_
   | refine LeO.bind ?_ (fun _ => ?_)
  ·intro y0 y1
   unfold spec_DealOk.l0
   repeat' first
   | (with_reducible exact ih0 _ _)
   | (with_reducible exact ih1 _ _)
   | (with_reducible exact LeO.refl _)
   | (with_reducible exact LeO.none _)
   | (with_reducible refine LeO.ite ?_ ?_)
   | (with_reducible refine LeO.bind ?_ (fun _ => ?_))
   | exact ih0 _ _
   | exact ih1 _ _
   | exact LeO.none _
   | refine LeO.ite ?_ ?_
   | refine LeO.bind ?_ (fun _ => ?_)
theorem spec_DealOk.mono : ∀ a0 k, LeO (spec_DealOk.f k a0) (spec_DealOk.f (k + 1) a0) := by
 intro a0 k
 obtain ⟨ih0, ih1⟩ := spec_DealOk.mono_l k
 unfold spec_DealOk.f
 repeat' first
  | (with_reducible exact ih0 _ _)
  | (with_reducible exact ih1 _ _)
  | (with_reducible exact LeO.refl _)
  | (with_reducible exact LeO.none _)
  | (with_reducible refine LeO.ite ?_ ?_)
  | (with_reducible refine LeO.bind ?_ (fun _ => ?_))
  | exact ih0 _ _
  | exact ih1 _ _
  | exact LeO.none _
  | refine LeO.ite ?_ ?_
  | refine LeO.bind ?_ (fun _ => ?_)
set_option maxHeartbeats 8000000 in
set_option maxRecDepth 100000 in
theorem spec_DealOk.calls (k : Nat) (A0 : Option Addr) (c0 : Nat) (l0 : List (S119)) (r : Bool) (w : World) (hr0 : Kd.C k119 w A0 l0.length l0) (hc0 : l0.length ≤ c0) (h : spec_DealOk.f k l0 = some r) :
 Calls Try.prog 72 #[.slice A0 l0.length c0] w fun e w' => e = .returned (.bool r) ∧ Below w.heap.size w w' := by
 have hu119 := Try.underlying119
 have HR0 := Aside0.mk hr0
 have HC0 := Aside0.mk hc0
 clear hr0 hc0
 have HB := Aside0.mk (Below.refl w.heap.size w)
 have H : (if (l0.length : Int) < 1 then (spec_DealOk.j0 k l0 true) else (spec_DealOk.j0 k l0 (decide ((l0.length : Int) > 6)))) = some r := h
 clear h
 have HC2 := Aside0.mk H
 clear H
 go_enter Try.func72, Try.ntmps72
 go_upto_region 1 with (fail)
 go_cut [12] (fun v12 wc => ∃ (kq : Nat) (x12_1 : Bool), v12 = .bool x12_1 ∧ Aside0 (spec_DealOk.j0 kq l0 x12_1 = some r) ∧ Aside0 (kq ≤ k) ∧ Aside0 (Below w.heap.size w wc))
 case first =>
  have H := HC2.out
  clear HC2
  by_cases c3 : (l0.length : Int) < 1
  ·rw [if_pos c3] at H
   have c3b0 : decide ((l0.length : Int) < 1) = true := decide_eq_true c3
   have c3b1 : decide (l0.length < 1) = true := decide_eq_true (by omega)
   clear c3
   (first | rw [c3b0] | (simp only [i64_w, i32_w]; rw [c3b0]) | skip)
   have H' := Aside0.mk H
   clear H
   go_wp2
   go_meet
   case rel => exact ⟨_, (true), (by first | rfl | (simp; done) | (simp [*]; done)), H', ⟨by first | omega | exact Nat.le_refl _⟩, ⟨hb_ HB.out⟩⟩
  ·rw [if_neg c3] at H
   have c3b0 : decide ((l0.length : Int) < 1) = false := decide_eq_false c3
   have c3b1 : decide (l0.length < 1) = false := decide_eq_false (by omega)
   clear c3
   (first | rw [c3b0] | (simp only [i64_w, i32_w]; rw [c3b0]) | skip)
   have H' := Aside0.mk H
   clear H
   go_wp2
   go_meet
   case rel => exact ⟨_, (decide ((l0.length : Int) > 6)), (by first | rfl | (simp; done) | (simp [*]; done)), H', ⟨by first | omega | exact Nat.le_refl _⟩, ⟨hb_ HB.out⟩⟩
 case rest =>
  clear HC2
  try clear p2
  try clear c3
  try clear c3b0
  try clear c3b1
  obtain ⟨kq, x12_1, rfl, HA, HJ1, HB⟩ := hcut
  cases kq with
  | zero => exact absurd HA.out (by simp [spec_DealOk.j0])
  | succ kj1 =>
   have H := HA.out
   clear HA
   simp only [spec_DealOk.j0] at H
   by_cases c4 : x12_1 = true
   ·subst c4
    have H1 : (some false) = some r := by rw [if_pos rfl] at H; exact H
    clear H
    have H := H1
    clear H1
    obtain rfl := Option.some.inj H
    go_wp2
    go_ret
    exact ⟨by first | rfl | (simp [errW_none, errW_some] <;> rfl) | (simp [*, errW_none, errW_some] <;> rfl), by repeat (first | (with_reducible first | exact HB.out | apply below_alloc | apply pw_below_drewN | apply below_drew1) | exact HB.out)⟩
   ·replace c4 := Bool.eq_false_iff.mpr c4
    subst c4
    have H1 : (spec_DealOk.l0 kj1 l0 0) = some r := by rw [if_neg (show ¬ (false = true) by decide)] at H; exact H
    clear H
    have H := H1
    clear H1
    have H' := Aside0.mk H
    clear H
    go_wp2
    go_loopg [3] kj1 (fun kq v3 w' => ∃ (x3_2 : Int), v3 = .int .i64 x3_2 ∧ Aside0 (spec_DealOk.l0 kq l0 x3_2 = some r) ∧ Aside0 (kq ≤ kj1) ∧ Aside0 (Below w.heap.size w w'))
    case atStart => exact ⟨(0), (by first | rfl | (simp; done) | (simp [*]; done)), H', ⟨Nat.le_refl _⟩, ⟨hb_ HB.out⟩⟩
    case round =>
     clear H'
     try clear p2
     try clear c3
     try clear c3b0
     try clear c3b1
     try clear c4
     try clear p2
     obtain ⟨x3_2, rfl, HA, HK2, HB⟩ := hrel
     cases gk with
     | zero => exact absurd HA.out (by simp [spec_DealOk.l0])
     | succ k2 =>
      have H := HA.out
      clear HA
      simp only [spec_DealOk.l0] at H
      by_cases c5 : x3_2 < (l0.length : Int)
      ·rw [if_pos c5] at H
       have c5b0 : decide (x3_2 < (l0.length : Int)) = true := decide_eq_true c5
       clear c5
       by_cases c6 : 0 ≤ x3_2
       ·rw [if_pos c6] at H
        have c6b0 : decide (0 ≤ x3_2) = true := decide_eq_true c6
        clear c6
        replace H := Option.bind_eq_some_iff.mp H
        obtain ⟨jn, A70, H⟩ := H
        replace H : (if jn = true then ((spec_l6In.f ((rd_T119 l0 x3_2).f1) 0 31).bind fun jk => (if jk = true then ((spec_l1Val.f ((rd_T119 l0 x3_2).f2)).bind fun ji => (if ji = true then (if ((rd_T119 l0 x3_2).f0) = 1 then (if ((rd_T119 l0 x3_2).f2) = 0 then (spec_DealOk.l0 k2 l0 (wrap64 (x3_2 + 1))) else (some false)) else (spec_DealOk.l0 k2 l0 (wrap64 (x3_2 + 1)))) else (some false))) else (some false))) else (some false)) = some r := H
        have A7 := Aside0.mk A70
        clear A70
        by_cases c8 : jn = true
        ·subst c8
         have H1 : ((spec_l6In.f ((rd_T119 l0 x3_2).f1) 0 31).bind fun jk => (if jk = true then ((spec_l1Val.f ((rd_T119 l0 x3_2).f2)).bind fun ji => (if ji = true then (if ((rd_T119 l0 x3_2).f0) = 1 then (if ((rd_T119 l0 x3_2).f2) = 0 then (spec_DealOk.l0 k2 l0 (wrap64 (x3_2 + 1))) else (some false)) else (spec_DealOk.l0 k2 l0 (wrap64 (x3_2 + 1)))) else (some false))) else (some false))) = some r := by rw [if_pos rfl] at H; exact H
         clear H
         have H := H1
         clear H1
         replace H := Option.bind_eq_some_iff.mp H
         obtain ⟨jk, A90, H⟩ := H
         replace H : (if jk = true then ((spec_l1Val.f ((rd_T119 l0 x3_2).f2)).bind fun ji => (if ji = true then (if ((rd_T119 l0 x3_2).f0) = 1 then (if ((rd_T119 l0 x3_2).f2) = 0 then (spec_DealOk.l0 k2 l0 (wrap64 (x3_2 + 1))) else (some false)) else (spec_DealOk.l0 k2 l0 (wrap64 (x3_2 + 1)))) else (some false))) else (some false)) = some r := H
         have A9 := Aside0.mk A90
         clear A90
         by_cases c10 : jk = true
         ·subst c10
          have H1 : ((spec_l1Val.f ((rd_T119 l0 x3_2).f2)).bind fun ji => (if ji = true then (if ((rd_T119 l0 x3_2).f0) = 1 then (if ((rd_T119 l0 x3_2).f2) = 0 then (spec_DealOk.l0 k2 l0 (wrap64 (x3_2 + 1))) else (some false)) else (spec_DealOk.l0 k2 l0 (wrap64 (x3_2 + 1)))) else (some false))) = some r := by rw [if_pos rfl] at H; exact H
          clear H
          have H := H1
          clear H1
          replace H := Option.bind_eq_some_iff.mp H
          obtain ⟨ji, A110, H⟩ := H
          replace H : (if ji = true then (if ((rd_T119 l0 x3_2).f0) = 1 then (if ((rd_T119 l0 x3_2).f2) = 0 then (spec_DealOk.l0 k2 l0 (wrap64 (x3_2 + 1))) else (some false)) else (spec_DealOk.l0 k2 l0 (wrap64 (x3_2 + 1)))) else (some false)) = some r := H
          have A11 := Aside0.mk A110
          clear A110
          by_cases c12 : ji = true
          ·subst c12
           have H1 : (if ((rd_T119 l0 x3_2).f0) = 1 then (if ((rd_T119 l0 x3_2).f2) = 0 then (spec_DealOk.l0 k2 l0 (wrap64 (x3_2 + 1))) else (some false)) else (spec_DealOk.l0 k2 l0 (wrap64 (x3_2 + 1)))) = some r := by rw [if_pos rfl] at H; exact H
           clear H
           have H := H1
           clear H1
           by_cases c13 : ((rd_T119 l0 x3_2).f0) = 1
           ·rw [if_pos c13] at H
            have c13b0 : (((rd_T119 l0 x3_2).f0) == 1) = true := beq_iff_eq.mpr c13
            have c13b1 : (((rd_T119 l0 x3_2).f0) != 1) = false := bne_eq_false_iff_eq.mpr c13
            clear c13
            by_cases c14 : ((rd_T119 l0 x3_2).f2) = 0
            ·rw [if_pos c14] at H
             have c14b0 : (((rd_T119 l0 x3_2).f2) == 0) = true := beq_iff_eq.mpr c14
             have c14b1 : (((rd_T119 l0 x3_2).f2) != 0) = false := bne_eq_false_iff_eq.mpr c14
             clear c14
             have H' := Aside0.mk H
             clear H
             have jd : 0 ≤ (x3_2 : Int) := of_decide_eq_true (by first | (with_reducible assumption) | assumption)
             have jf : x3_2 < (l0.length : Int) := of_decide_eq_true (by first | (with_reducible assumption) | assumption)
             obtain ⟨jl, jh, je, jg, jc⟩ := at_T119 HR0.out x3_2 jd jf
             cases jh
             replace je := (HB.out.cell (World.block_lt_of_cell? w _ je)).trans je
             replace jg := (HB.out.cell (World.block_lt_of_cell? w _ jg)).trans jg
             replace jc := (HB.out.cell (World.block_lt_of_cell? w _ jc)).trans jc
             replace jd := eq_true jd
             replace jf := eq_true jf
             go_wp2_with (first | ((with_reducible refine gate_dst (N := 4) rfl ?_); (try (refine gate_guard (by rfl) ?_; dsimp only)); refine box_event ?hg (N := 4) ?hd (cs := #[.int .i64 0, .int .i64 0, .int .i64 0]) (t := 119) ?hr ?_; (case hd => rfl); (case hg => rfl); (case hr => first | (go_simp; done) | (go_simp; rfl)); intro jb hg w15 hbox hb; have n0_ := Aside0.mk (below_step (hb_ HB.out) hb); have n1_ := Aside0.mk (hbox); have n2_ := Aside0.mk ((by rw [hg]; exact (below_size (hb_ HB.out)) : w.heap.size ≤ jb)); have n3_ := Aside0.mk ((by rw [hg]; exact (below_size (hb_ HB.out)) : w.heap.size ≤ jb)); clear HB; have HB := n0_; have ja := n1_; have jm := n2_; have jj := n3_; clear n0_ n1_ n2_ n3_; clear hb hbox hg; have hcz16_0 : w15.cell? ⟨jb, 0, none⟩ = some (.int .i64 0) := (blk_cell ja.out 0).trans rfl; have hcz16_1 : w15.cell? ⟨jb, 1, none⟩ = some (.int .i64 0) := (blk_cell ja.out 1).trans rfl; have hcz16_2 : w15.cell? ⟨jb, 2, none⟩ = some (.int .i64 0) := (blk_cell ja.out 2).trans rfl; have hfz16_0 := blk_frozen ja.out 0; have hfz16_1 := blk_frozen ja.out 1; have hfz16_2 := blk_frozen ja.out 2) | ((with_reducible refine gate_callee (f := 21) rfl ?_); refine goesL_ (some 25) rfl rfl Try.func21 (by kernel_rfl) rfl #[.int .i64 ((rd_T119 l0 x3_2).f0), .int .i64 1, .int .i64 4] rfl (by (try simp only [List.map_toArray, List.map_cons, List.map_nil]); first | done | rfl | (simp only [List.length_drop, List.length_take]; rfl)) ?_; (with_reducible refine (spec_l6In.calls ((rd_T119 l0 x3_2).f0) 1 4 true _ A7.out).mono ?_); rintro e w' ⟨rfl, ⟨nd, rfl⟩⟩; refine ⟨_, rfl, ?_⟩) | (go_at_call 21; (with_reducible refine (spec_l6In.calls ((rd_T119 l0 x3_2).f1) 0 31 true _ A9.out).mono ?_); rintro e w' ⟨rfl, ⟨nd, rfl⟩⟩) | (go_at_call 51; (with_reducible refine (spec_l1Val.calls ((rd_T119 l0 x3_2).f2) true _ A11.out).mono ?_); rintro e w' ⟨rfl, ⟨nd, rfl⟩⟩))
             go_roundg k2
             case measure => have := HJ1.out; have := HK2.out; omega
             case rel => exact ⟨(wrap64 (x3_2 + 1)), (by first | rfl | (simp; done) | (simp [*]; done)), H', ⟨by have := HJ1.out; have := HK2.out; omega⟩, ⟨hb_ HB.out⟩⟩
            ·rw [if_neg c14] at H
             have c14b0 : (((rd_T119 l0 x3_2).f2) == 0) = false := beq_eq_false_iff_ne.mpr c14
             have c14b1 : (((rd_T119 l0 x3_2).f2) != 0) = true := bne_iff_ne.mpr c14
             obtain rfl := Option.some.inj H
             have jd : 0 ≤ (x3_2 : Int) := of_decide_eq_true (by first | (with_reducible assumption) | assumption)
             have jf : x3_2 < (l0.length : Int) := of_decide_eq_true (by first | (with_reducible assumption) | assumption)
             obtain ⟨jl, jh, je, jg, jc⟩ := at_T119 HR0.out x3_2 jd jf
             cases jh
             replace je := (HB.out.cell (World.block_lt_of_cell? w _ je)).trans je
             replace jg := (HB.out.cell (World.block_lt_of_cell? w _ jg)).trans jg
             replace jc := (HB.out.cell (World.block_lt_of_cell? w _ jc)).trans jc
             replace jd := eq_true jd
             replace jf := eq_true jf
             go_wp2_with (first | ((with_reducible refine gate_dst (N := 4) rfl ?_); (try (refine gate_guard (by rfl) ?_; dsimp only)); refine box_event ?hg (N := 4) ?hd (cs := #[.int .i64 0, .int .i64 0, .int .i64 0]) (t := 119) ?hr ?_; (case hd => rfl); (case hg => rfl); (case hr => first | (go_simp; done) | (go_simp; rfl)); intro jb hg w17 hbox hb; have n0_ := Aside0.mk (below_step (hb_ HB.out) hb); have n1_ := Aside0.mk (hbox); have n2_ := Aside0.mk ((by rw [hg]; exact (below_size (hb_ HB.out)) : w.heap.size ≤ jb)); have n3_ := Aside0.mk ((by rw [hg]; exact (below_size (hb_ HB.out)) : w.heap.size ≤ jb)); clear HB; have HB := n0_; have ja := n1_; have jm := n2_; have jj := n3_; clear n0_ n1_ n2_ n3_; clear hb hbox hg; have hcz18_0 : w17.cell? ⟨jb, 0, none⟩ = some (.int .i64 0) := (blk_cell ja.out 0).trans rfl; have hcz18_1 : w17.cell? ⟨jb, 1, none⟩ = some (.int .i64 0) := (blk_cell ja.out 1).trans rfl; have hcz18_2 : w17.cell? ⟨jb, 2, none⟩ = some (.int .i64 0) := (blk_cell ja.out 2).trans rfl; have hfz18_0 := blk_frozen ja.out 0; have hfz18_1 := blk_frozen ja.out 1; have hfz18_2 := blk_frozen ja.out 2) | ((with_reducible refine gate_callee (f := 21) rfl ?_); refine goesL_ (some 25) rfl rfl Try.func21 (by kernel_rfl) rfl #[.int .i64 ((rd_T119 l0 x3_2).f0), .int .i64 1, .int .i64 4] rfl (by (try simp only [List.map_toArray, List.map_cons, List.map_nil]); first | done | rfl | (simp only [List.length_drop, List.length_take]; rfl)) ?_; (with_reducible refine (spec_l6In.calls ((rd_T119 l0 x3_2).f0) 1 4 true _ A7.out).mono ?_); rintro e w' ⟨rfl, ⟨nd, rfl⟩⟩; refine ⟨_, rfl, ?_⟩) | (go_at_call 21; (with_reducible refine (spec_l6In.calls ((rd_T119 l0 x3_2).f1) 0 31 true _ A9.out).mono ?_); rintro e w' ⟨rfl, ⟨nd, rfl⟩⟩) | (go_at_call 51; (with_reducible refine (spec_l1Val.calls ((rd_T119 l0 x3_2).f2) true _ A11.out).mono ?_); rintro e w' ⟨rfl, ⟨nd, rfl⟩⟩))
             go_ret
             exact ⟨by first | rfl | (simp [errW_none, errW_some] <;> rfl) | (simp [*, errW_none, errW_some] <;> rfl), by repeat (first | (with_reducible first | exact HB.out | apply below_alloc | apply pw_below_drewN | apply below_drew1 | refine below_set ?_ jj.out) | exact HB.out)⟩
           ·rw [if_neg c13] at H
            have c13b0 : (((rd_T119 l0 x3_2).f0) == 1) = false := beq_eq_false_iff_ne.mpr c13
            have c13b1 : (((rd_T119 l0 x3_2).f0) != 1) = true := bne_iff_ne.mpr c13
            have H' := Aside0.mk H
            clear H
            have jd : 0 ≤ (x3_2 : Int) := of_decide_eq_true (by first | (with_reducible assumption) | assumption)
            have jf : x3_2 < (l0.length : Int) := of_decide_eq_true (by first | (with_reducible assumption) | assumption)
            obtain ⟨jl, jh, je, jg, jc⟩ := at_T119 HR0.out x3_2 jd jf
            cases jh
            replace je := (HB.out.cell (World.block_lt_of_cell? w _ je)).trans je
            replace jg := (HB.out.cell (World.block_lt_of_cell? w _ jg)).trans jg
            replace jc := (HB.out.cell (World.block_lt_of_cell? w _ jc)).trans jc
            replace jd := eq_true jd
            replace jf := eq_true jf
            go_wp2_with (first | ((with_reducible refine gate_dst (N := 4) rfl ?_); (try (refine gate_guard (by rfl) ?_; dsimp only)); refine box_event ?hg (N := 4) ?hd (cs := #[.int .i64 0, .int .i64 0, .int .i64 0]) (t := 119) ?hr ?_; (case hd => rfl); (case hg => rfl); (case hr => first | (go_simp; done) | (go_simp; rfl)); intro jb hg w19 hbox hb; have n0_ := Aside0.mk (below_step (hb_ HB.out) hb); have n1_ := Aside0.mk (hbox); have n2_ := Aside0.mk ((by rw [hg]; exact (below_size (hb_ HB.out)) : w.heap.size ≤ jb)); have n3_ := Aside0.mk ((by rw [hg]; exact (below_size (hb_ HB.out)) : w.heap.size ≤ jb)); clear HB; have HB := n0_; have ja := n1_; have jm := n2_; have jj := n3_; clear n0_ n1_ n2_ n3_; clear hb hbox hg; have hcz20_0 : w19.cell? ⟨jb, 0, none⟩ = some (.int .i64 0) := (blk_cell ja.out 0).trans rfl; have hcz20_1 : w19.cell? ⟨jb, 1, none⟩ = some (.int .i64 0) := (blk_cell ja.out 1).trans rfl; have hcz20_2 : w19.cell? ⟨jb, 2, none⟩ = some (.int .i64 0) := (blk_cell ja.out 2).trans rfl; have hfz20_0 := blk_frozen ja.out 0; have hfz20_1 := blk_frozen ja.out 1; have hfz20_2 := blk_frozen ja.out 2) | ((with_reducible refine gate_callee (f := 21) rfl ?_); refine goesL_ (some 25) rfl rfl Try.func21 (by kernel_rfl) rfl #[.int .i64 ((rd_T119 l0 x3_2).f0), .int .i64 1, .int .i64 4] rfl (by (try simp only [List.map_toArray, List.map_cons, List.map_nil]); first | done | rfl | (simp only [List.length_drop, List.length_take]; rfl)) ?_; (with_reducible refine (spec_l6In.calls ((rd_T119 l0 x3_2).f0) 1 4 true _ A7.out).mono ?_); rintro e w' ⟨rfl, ⟨nd, rfl⟩⟩; refine ⟨_, rfl, ?_⟩) | (go_at_call 21; (with_reducible refine (spec_l6In.calls ((rd_T119 l0 x3_2).f1) 0 31 true _ A9.out).mono ?_); rintro e w' ⟨rfl, ⟨nd, rfl⟩⟩) | (go_at_call 51; (with_reducible refine (spec_l1Val.calls ((rd_T119 l0 x3_2).f2) true _ A11.out).mono ?_); rintro e w' ⟨rfl, ⟨nd, rfl⟩⟩))
            go_roundg k2
            case measure => have := HJ1.out; have := HK2.out; omega
            case rel => exact ⟨(wrap64 (x3_2 + 1)), (by first | rfl | (simp; done) | (simp [*]; done)), H', ⟨by have := HJ1.out; have := HK2.out; omega⟩, ⟨hb_ HB.out⟩⟩
          ·replace c12 := Bool.eq_false_iff.mpr c12
           subst c12
           have H1 : (some false) = some r := by rw [if_neg (show ¬ (false = true) by decide)] at H; exact H
           clear H
           have H := H1
           clear H1
           obtain rfl := Option.some.inj H
           have jd : 0 ≤ (x3_2 : Int) := of_decide_eq_true (by first | (with_reducible assumption) | assumption)
           have jf : x3_2 < (l0.length : Int) := of_decide_eq_true (by first | (with_reducible assumption) | assumption)
           obtain ⟨jl, jh, je, jg, jc⟩ := at_T119 HR0.out x3_2 jd jf
           cases jh
           replace je := (HB.out.cell (World.block_lt_of_cell? w _ je)).trans je
           replace jg := (HB.out.cell (World.block_lt_of_cell? w _ jg)).trans jg
           replace jc := (HB.out.cell (World.block_lt_of_cell? w _ jc)).trans jc
           replace jd := eq_true jd
           replace jf := eq_true jf
           go_wp2_with (first | ((with_reducible refine gate_dst (N := 4) rfl ?_); (try (refine gate_guard (by rfl) ?_; dsimp only)); refine box_event ?hg (N := 4) ?hd (cs := #[.int .i64 0, .int .i64 0, .int .i64 0]) (t := 119) ?hr ?_; (case hd => rfl); (case hg => rfl); (case hr => first | (go_simp; done) | (go_simp; rfl)); intro jb hg w21 hbox hb; have n0_ := Aside0.mk (below_step (hb_ HB.out) hb); have n1_ := Aside0.mk (hbox); have n2_ := Aside0.mk ((by rw [hg]; exact (below_size (hb_ HB.out)) : w.heap.size ≤ jb)); have n3_ := Aside0.mk ((by rw [hg]; exact (below_size (hb_ HB.out)) : w.heap.size ≤ jb)); clear HB; have HB := n0_; have ja := n1_; have jm := n2_; have jj := n3_; clear n0_ n1_ n2_ n3_; clear hb hbox hg; have hcz22_0 : w21.cell? ⟨jb, 0, none⟩ = some (.int .i64 0) := (blk_cell ja.out 0).trans rfl; have hcz22_1 : w21.cell? ⟨jb, 1, none⟩ = some (.int .i64 0) := (blk_cell ja.out 1).trans rfl; have hcz22_2 : w21.cell? ⟨jb, 2, none⟩ = some (.int .i64 0) := (blk_cell ja.out 2).trans rfl; have hfz22_0 := blk_frozen ja.out 0; have hfz22_1 := blk_frozen ja.out 1; have hfz22_2 := blk_frozen ja.out 2) | ((with_reducible refine gate_callee (f := 21) rfl ?_); refine goesL_ (some 25) rfl rfl Try.func21 (by kernel_rfl) rfl #[.int .i64 ((rd_T119 l0 x3_2).f0), .int .i64 1, .int .i64 4] rfl (by (try simp only [List.map_toArray, List.map_cons, List.map_nil]); first | done | rfl | (simp only [List.length_drop, List.length_take]; rfl)) ?_; (with_reducible refine (spec_l6In.calls ((rd_T119 l0 x3_2).f0) 1 4 true _ A7.out).mono ?_); rintro e w' ⟨rfl, ⟨nd, rfl⟩⟩; refine ⟨_, rfl, ?_⟩) | (go_at_call 21; (with_reducible refine (spec_l6In.calls ((rd_T119 l0 x3_2).f1) 0 31 true _ A9.out).mono ?_); rintro e w' ⟨rfl, ⟨nd, rfl⟩⟩) | (go_at_call 51; (with_reducible refine (spec_l1Val.calls ((rd_T119 l0 x3_2).f2) false _ A11.out).mono ?_); rintro e w' ⟨rfl, ⟨nd, rfl⟩⟩))
           go_ret
           exact ⟨by first | rfl | (simp [errW_none, errW_some] <;> rfl) | (simp [*, errW_none, errW_some] <;> rfl), by repeat (first | (with_reducible first | exact HB.out | apply below_alloc | apply pw_below_drewN | apply below_drew1 | refine below_set ?_ jj.out) | exact HB.out)⟩
         ·replace c10 := Bool.eq_false_iff.mpr c10
          subst c10
          have H1 : (some false) = some r := by rw [if_neg (show ¬ (false = true) by decide)] at H; exact H
          clear H
          have H := H1
          clear H1
          obtain rfl := Option.some.inj H
          have jd : 0 ≤ (x3_2 : Int) := of_decide_eq_true (by first | (with_reducible assumption) | assumption)
          have jf : x3_2 < (l0.length : Int) := of_decide_eq_true (by first | (with_reducible assumption) | assumption)
          obtain ⟨jl, jh, je, jg, jc⟩ := at_T119 HR0.out x3_2 jd jf
          cases jh
          replace je := (HB.out.cell (World.block_lt_of_cell? w _ je)).trans je
          replace jg := (HB.out.cell (World.block_lt_of_cell? w _ jg)).trans jg
          replace jc := (HB.out.cell (World.block_lt_of_cell? w _ jc)).trans jc
          replace jd := eq_true jd
          replace jf := eq_true jf
          go_wp2_with (first | ((with_reducible refine gate_dst (N := 4) rfl ?_); (try (refine gate_guard (by rfl) ?_; dsimp only)); refine box_event ?hg (N := 4) ?hd (cs := #[.int .i64 0, .int .i64 0, .int .i64 0]) (t := 119) ?hr ?_; (case hd => rfl); (case hg => rfl); (case hr => first | (go_simp; done) | (go_simp; rfl)); intro jb hg w23 hbox hb; have n0_ := Aside0.mk (below_step (hb_ HB.out) hb); have n1_ := Aside0.mk (hbox); have n2_ := Aside0.mk ((by rw [hg]; exact (below_size (hb_ HB.out)) : w.heap.size ≤ jb)); have n3_ := Aside0.mk ((by rw [hg]; exact (below_size (hb_ HB.out)) : w.heap.size ≤ jb)); clear HB; have HB := n0_; have ja := n1_; have jm := n2_; have jj := n3_; clear n0_ n1_ n2_ n3_; clear hb hbox hg; have hcz24_0 : w23.cell? ⟨jb, 0, none⟩ = some (.int .i64 0) := (blk_cell ja.out 0).trans rfl; have hcz24_1 : w23.cell? ⟨jb, 1, none⟩ = some (.int .i64 0) := (blk_cell ja.out 1).trans rfl; have hcz24_2 : w23.cell? ⟨jb, 2, none⟩ = some (.int .i64 0) := (blk_cell ja.out 2).trans rfl; have hfz24_0 := blk_frozen ja.out 0; have hfz24_1 := blk_frozen ja.out 1; have hfz24_2 := blk_frozen ja.out 2) | ((with_reducible refine gate_callee (f := 21) rfl ?_); refine goesL_ (some 25) rfl rfl Try.func21 (by kernel_rfl) rfl #[.int .i64 ((rd_T119 l0 x3_2).f0), .int .i64 1, .int .i64 4] rfl (by (try simp only [List.map_toArray, List.map_cons, List.map_nil]); first | done | rfl | (simp only [List.length_drop, List.length_take]; rfl)) ?_; (with_reducible refine (spec_l6In.calls ((rd_T119 l0 x3_2).f0) 1 4 true _ A7.out).mono ?_); rintro e w' ⟨rfl, ⟨nd, rfl⟩⟩; refine ⟨_, rfl, ?_⟩) | (go_at_call 21; (with_reducible refine (spec_l6In.calls ((rd_T119 l0 x3_2).f1) 0 31 false _ A9.out).mono ?_); rintro e w' ⟨rfl, ⟨nd, rfl⟩⟩))
          go_ret
          exact ⟨by first | rfl | (simp [errW_none, errW_some] <;> rfl) | (simp [*, errW_none, errW_some] <;> rfl), by repeat (first | (with_reducible first | exact HB.out | apply below_alloc | apply pw_below_drewN | apply below_drew1 | refine below_set ?_ jj.out) | exact HB.out)⟩
        ·replace c8 := Bool.eq_false_iff.mpr c8
         subst c8
         have H1 : (some false) = some r := by rw [if_neg (show ¬ (false = true) by decide)] at H; exact H
         clear H
         have H := H1
         clear H1
         obtain rfl := Option.some.inj H
         have jd : 0 ≤ (x3_2 : Int) := of_decide_eq_true (by first | (with_reducible assumption) | assumption)
         have jf : x3_2 < (l0.length : Int) := of_decide_eq_true (by first | (with_reducible assumption) | assumption)
         obtain ⟨jl, jh, je, jg, jc⟩ := at_T119 HR0.out x3_2 jd jf
         cases jh
         replace je := (HB.out.cell (World.block_lt_of_cell? w _ je)).trans je
         replace jg := (HB.out.cell (World.block_lt_of_cell? w _ jg)).trans jg
         replace jc := (HB.out.cell (World.block_lt_of_cell? w _ jc)).trans jc
         replace jd := eq_true jd
         replace jf := eq_true jf
         go_wp2_with (first | ((with_reducible refine gate_dst (N := 4) rfl ?_); (try (refine gate_guard (by rfl) ?_; dsimp only)); refine box_event ?hg (N := 4) ?hd (cs := #[.int .i64 0, .int .i64 0, .int .i64 0]) (t := 119) ?hr ?_; (case hd => rfl); (case hg => rfl); (case hr => first | (go_simp; done) | (go_simp; rfl)); intro jb hg w25 hbox hb; have n0_ := Aside0.mk (below_step (hb_ HB.out) hb); have n1_ := Aside0.mk (hbox); have n2_ := Aside0.mk ((by rw [hg]; exact (below_size (hb_ HB.out)) : w.heap.size ≤ jb)); have n3_ := Aside0.mk ((by rw [hg]; exact (below_size (hb_ HB.out)) : w.heap.size ≤ jb)); clear HB; have HB := n0_; have ja := n1_; have jm := n2_; have jj := n3_; clear n0_ n1_ n2_ n3_; clear hb hbox hg; have hcz26_0 : w25.cell? ⟨jb, 0, none⟩ = some (.int .i64 0) := (blk_cell ja.out 0).trans rfl; have hcz26_1 : w25.cell? ⟨jb, 1, none⟩ = some (.int .i64 0) := (blk_cell ja.out 1).trans rfl; have hcz26_2 : w25.cell? ⟨jb, 2, none⟩ = some (.int .i64 0) := (blk_cell ja.out 2).trans rfl; have hfz26_0 := blk_frozen ja.out 0; have hfz26_1 := blk_frozen ja.out 1; have hfz26_2 := blk_frozen ja.out 2) | ((with_reducible refine gate_callee (f := 21) rfl ?_); refine goesL_ (some 25) rfl rfl Try.func21 (by kernel_rfl) rfl #[.int .i64 ((rd_T119 l0 x3_2).f0), .int .i64 1, .int .i64 4] rfl (by (try simp only [List.map_toArray, List.map_cons, List.map_nil]); first | done | rfl | (simp only [List.length_drop, List.length_take]; rfl)) ?_; (with_reducible refine (spec_l6In.calls ((rd_T119 l0 x3_2).f0) 1 4 false _ A7.out).mono ?_); rintro e w' ⟨rfl, ⟨nd, rfl⟩⟩; refine ⟨_, rfl, ?_⟩))
         go_ret
         exact ⟨by first | rfl | (simp [errW_none, errW_some] <;> rfl) | (simp [*, errW_none, errW_some] <;> rfl), by repeat (first | (with_reducible first | exact HB.out | apply below_alloc | apply pw_below_drewN | apply below_drew1 | refine below_set ?_ jj.out) | exact HB.out)⟩
       ·rw [if_neg c6] at H
        exact absurd H (by simp)
      ·rw [if_neg c5] at H
       have c5b0 : decide (x3_2 < (l0.length : Int)) = false := decide_eq_false c5
       clear c5
       obtain rfl := Option.some.inj H
       go_wp2
       go_ret
       exact ⟨by first | rfl | (simp [errW_none, errW_some] <;> rfl) | (simp [*, errW_none, errW_some] <;> rfl), by repeat (first | (with_reducible first | exact HB.out | apply below_alloc | apply pw_below_drewN | apply below_drew1) | exact HB.out)⟩

end Go.Proofs.Ytbjdnfgalopfiaa.PD
