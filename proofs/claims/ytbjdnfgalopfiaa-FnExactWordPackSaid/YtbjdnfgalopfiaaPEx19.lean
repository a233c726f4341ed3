import Derived.Test.YtbjdnfgalopfiaaPEx0
import Derived.Test.YtbjdnfgalopfiaaPEx16
import Derived.Test.YtbjdnfgalopfiaaPEx18
namespace Go.Proofs.Ytbjdnfgalopfiaa.PE
open Go.RowKit Go.Proofs.YtbjdnfgalopfiaaW.PrintWords Go.Proofs.YtbjdnfgalopfiaaW.PrintLast Go.Proofs.YtbjdnfgalopfiaaW.PrintMore
attribute [local go_sem] max2_int min2_int max_two min_two max_three min_three max_four min_four
set_option linter.unusedVariables false
set_option linter.unusedSimpArgs false

def spec_l1Pairs.l0 : Nat → List (S68) → Int → Option (Bool)
 | 0, _, _ => none
 | k + 1, x0, x3 => if x3 < (x0.length : Int) then (if 0 ≤ x3 then ((spec_l6In.f ((rd_T68 x0 x3).f0) 0 31).bind fun t250002 => (if t250002 = true then ((spec_l1Val.f ((rd_T68 x0 x3).f1)).bind fun t250004 => (if t250004 = true then (if x3 > 0 then (if 0 ≤ (wrap64 (x3 - 1)) then (if (wrap64 (x3 - 1)) < (x0.length : Int) then (if ((rd_T68 x0 (wrap64 (x3 - 1))).f0) ≥ ((rd_T68 x0 x3).f0) then (some false) else (spec_l1Pairs.l0 k x0 (wrap64 (x3 + 1)))) else (none)) else (none)) else (spec_l1Pairs.l0 k x0 (wrap64 (x3 + 1)))) else (some false))) else (some false))) else (none)) else (some true)
def spec_l1Pairs.f (k : Nat) (l0 : List (S68)) : Option (Bool) := if (l0.length : Int) > 32 then (some false) else (spec_l1Pairs.l0 k l0 0)
theorem spec_l1Pairs.mono_l : ∀ k, (∀ y0 y1, LeO (spec_l1Pairs.l0 k y0 y1) (spec_l1Pairs.l0 (k + 1) y0 y1))
 | 0 => fun _ _ r h => by simp [spec_l1Pairs.l0] at h
 | k + 1 => by
  have ih0 := spec_l1Pairs.mono_l k
  ·intro y0 y1
   unfold spec_l1Pairs.l0
   repeat' first
   | (with_reducible exact ih0 _ _)
   | (with_reducible exact LeO.refl _)
   | (with_reducible exact LeO.none _)
   | (with_reducible refine LeO.ite ?_ ?_)
   | (with_reducible refine LeO.bind ?_ (fun _ => ?_))
   | exact ih0 _ _
   | exact LeO.none _
   | refine LeO.ite ?_ ?_
   | refine LeO.bind ?_ (fun _ => ?_)
theorem spec_l1Pairs.mono : ∀ a0 k, LeO (spec_l1Pairs.f k a0) (spec_l1Pairs.f (k + 1) a0) := by
 intro a0 k
 have ih0 := spec_l1Pairs.mono_l k
 unfold spec_l1Pairs.f
 repeat' first
  | (with_reducible exact ih0 _ _)
  | (with_reducible exact LeO.refl _)
  | (with_reducible exact LeO.none _)
  | (with_reducible refine LeO.ite ?_ ?_)
  | (with_reducible refine LeO.bind ?_ (fun _ => ?_))
  | exact ih0 _ _
  | exact LeO.none _
  | refine LeO.ite ?_ ?_
  | refine LeO.bind ?_ (fun _ => ?_)
def spec_l1Pairs.T6 : Bool × List (List Nat × List Nat) := (true, [([], []), ([], []), ([0, 1], [0, 1]), ([2], [2]), ([3], [3]), ([4], [4]), ([5], [5]), ([6, 5], [6]), ([7], [7]), ([7], [7]), ([8, 9, 7], [7, 8, 9]), ([10, 7], [7, 10]), ([11, 7], [7, 11]), ([12, 7, 7], [7, 12]), ([13, 7], [7, 13]), ([7, 14], [7, 14]), ([15, 13], [15]), ([16], [16]), ([17, 16], [16, 17]), ([18, 16, 16], [16, 18]), ([19], [19]), ([19], [19]), ([21, 19], [19, 21]), ([20, 22, 19], [19, 20, 22]), ([23, 19], [19, 23]), ([24, 19], [19, 24]), ([19], [19]), ([19], [19]), ([26, 27, 19], [19, 26, 27]), ([28, 19], [19, 28]), ([29, 19], [19, 29]), ([25, 30, 19], [19, 25, 30]), ([19, 31, 16], [16, 19, 31]), ([16, 32], [16, 32])])
def spec_l1Pairs.B6 : List Nat := [0, 0, 3, 7, 15, 31, 63, 127, 255, 255, 1023, 2047, 4095, 8191, 16383, 32767, 65535, 131071, 262143, 524287, 1048575, 1048575, 3145727, 8388607, 16777215, 33554431, 1048575, 1048575, 202375167, 470810623, 1007681535, 2147483647, 4294967295, 8589934591]
theorem spec_l1Pairs.tab6 : rtab .any (opsOf Try.f24 6) = spec_l1Pairs.T6 := by kernel_rfl
theorem spec_l1Pairs.bits6 : waitsOk spec_l1Pairs.T6.2 spec_l1Pairs.B6 = true := by kernel_rfl
set_option maxHeartbeats 8000000 in
set_option maxRecDepth 100000 in
theorem spec_l1Pairs.calls (k : Nat) (A0 : Option Addr) (c0 : Nat) (l0 : List (S68)) (r : Bool) (w : World) (hr0 : Kd.C k68 w A0 l0.length l0) (hc0 : l0.length ≤ c0) (h : spec_l1Pairs.f k l0 = some r) :
 Calls Try.prog 24 #[.slice A0 l0.length c0] w fun e w' => e = .returned (.bool r) ∧ Below w.heap.size w w' := by
 have HR0 := Aside0.mk hr0
 have HC0 := Aside0.mk hc0
 clear hr0 hc0
 have HB := Aside0.mk (Below.refl w.heap.size w)
 have H : (if (l0.length : Int) > 32 then (some false) else (spec_l1Pairs.l0 k l0 0)) = some r := h
 clear h
 by_cases c2 : (l0.length : Int) > 32
 ·rw [if_pos c2] at H
  have c2b0 : decide (32 < (l0.length : Int)) = true := decide_eq_true c2
  have c2b1 : decide (32 < l0.length) = true := decide_eq_true (by omega)
  clear c2
  obtain rfl := Option.some.inj H
  go_enter Try.func24, Try.ntmps24
  go_wp2
  go_ret
  exact ⟨by first | rfl | (simp [errW_none, errW_some] <;> rfl) | (simp [*, errW_none, errW_some] <;> rfl), by repeat (first | (with_reducible first | exact HB.out | apply below_alloc | apply pw_below_drewN | apply below_drew1) | exact HB.out)⟩
 ·rw [if_neg c2] at H
  have c2b0 : decide (32 < (l0.length : Int)) = false := decide_eq_false c2
  have c2b1 : decide (32 < l0.length) = false := decide_eq_false (by omega)
  clear c2
  have H' := Aside0.mk H
  clear H
  go_enter Try.func24, Try.ntmps24
  go_wp2
  go_loopg [3] k (fun kq v3 w' => ∃ (x3_1 : Int), v3 = .int .i64 x3_1 ∧ Aside0 (spec_l1Pairs.l0 kq l0 x3_1 = some r) ∧ Aside0 (kq ≤ k) ∧ Aside0 (Below w.heap.size w w'))
  case atStart => exact ⟨(0), (by first | rfl | (simp; done) | (simp [*]; done)), H', ⟨Nat.le_refl _⟩, ⟨hb_ HB.out⟩⟩
  case round =>
   clear H'
   try clear c2
   try clear c2b0
   try clear c2b1
   try clear p2
   obtain ⟨x3_1, rfl, HA, HK1, HB⟩ := hrel
   cases gk with
   | zero => exact absurd HA.out (by simp [spec_l1Pairs.l0])
   | succ k1 =>
    have H := HA.out
    clear HA
    simp only [spec_l1Pairs.l0] at H
    by_cases c3 : x3_1 < (l0.length : Int)
    ·rw [if_pos c3] at H
     have c3b0 : decide (x3_1 < (l0.length : Int)) = true := decide_eq_true c3
     clear c3
     by_cases c4 : 0 ≤ x3_1
     ·rw [if_pos c4] at H
      have c4b0 : decide (0 ≤ x3_1) = true := decide_eq_true c4
      clear c4
      replace H := Option.bind_eq_some_iff.mp H
      obtain ⟨jI, A50, H⟩ := H
      replace H : (if jI = true then ((spec_l1Val.f ((rd_T68 l0 x3_1).f1)).bind fun jC => (if jC = true then (if x3_1 > 0 then (if 0 ≤ (wrap64 (x3_1 - 1)) then (if (wrap64 (x3_1 - 1)) < (l0.length : Int) then (if ((rd_T68 l0 (wrap64 (x3_1 - 1))).f0) ≥ ((rd_T68 l0 x3_1).f0) then (some false) else (spec_l1Pairs.l0 k1 l0 (wrap64 (x3_1 + 1)))) else (none)) else (none)) else (spec_l1Pairs.l0 k1 l0 (wrap64 (x3_1 + 1)))) else (some false))) else (some false)) = some r := H
      have A5 := Aside0.mk A50
      clear A50
      by_cases c6 : jI = true
      ·subst c6
       have H1 : ((spec_l1Val.f ((rd_T68 l0 x3_1).f1)).bind fun jC => (if jC = true then (if x3_1 > 0 then (if 0 ≤ (wrap64 (x3_1 - 1)) then (if (wrap64 (x3_1 - 1)) < (l0.length : Int) then (if ((rd_T68 l0 (wrap64 (x3_1 - 1))).f0) ≥ ((rd_T68 l0 x3_1).f0) then (some false) else (spec_l1Pairs.l0 k1 l0 (wrap64 (x3_1 + 1)))) else (none)) else (none)) else (spec_l1Pairs.l0 k1 l0 (wrap64 (x3_1 + 1)))) else (some false))) = some r := by rw [if_pos rfl] at H; exact H
       clear H
       have H := H1
       clear H1
       replace H := Option.bind_eq_some_iff.mp H
       obtain ⟨jC, A70, H⟩ := H
       replace H : (if jC = true then (if x3_1 > 0 then (if 0 ≤ (wrap64 (x3_1 - 1)) then (if (wrap64 (x3_1 - 1)) < (l0.length : Int) then (if ((rd_T68 l0 (wrap64 (x3_1 - 1))).f0) ≥ ((rd_T68 l0 x3_1).f0) then (some false) else (spec_l1Pairs.l0 k1 l0 (wrap64 (x3_1 + 1)))) else (none)) else (none)) else (spec_l1Pairs.l0 k1 l0 (wrap64 (x3_1 + 1)))) else (some false)) = some r := H
       have A7 := Aside0.mk A70
       clear A70
       by_cases c8 : jC = true
       ·subst c8
        have H1 : (if x3_1 > 0 then (if 0 ≤ (wrap64 (x3_1 - 1)) then (if (wrap64 (x3_1 - 1)) < (l0.length : Int) then (if ((rd_T68 l0 (wrap64 (x3_1 - 1))).f0) ≥ ((rd_T68 l0 x3_1).f0) then (some false) else (spec_l1Pairs.l0 k1 l0 (wrap64 (x3_1 + 1)))) else (none)) else (none)) else (spec_l1Pairs.l0 k1 l0 (wrap64 (x3_1 + 1)))) = some r := by rw [if_pos rfl] at H; exact H
        clear H
        have H := H1
        clear H1
        by_cases c9 : x3_1 > 0
        ·rw [if_pos c9] at H
         have c9b0 : decide (0 < x3_1) = true := decide_eq_true c9
         clear c9
         obtain ⟨ji10, hji10⟩ : ∃ j_ : Int, (wrap64 (x3_1 - 1)) = j_ := ⟨_, rfl⟩
         replace H : (if 0 ≤ (ji10) then (if (ji10) < (l0.length : Int) then (if ((rd_T68 l0 (ji10)).f0) ≥ ((rd_T68 l0 x3_1).f0) then (some false) else (spec_l1Pairs.l0 k1 l0 (wrap64 (x3_1 + 1)))) else (none)) else (none)) = some r := by first | (rw [hji10] at H; exact H) | (simp only [hji10] at H ⊢; exact H)
         (try rw [hji10] at A5)
         (try rw [hji10] at A7)
         have hji10w : (IntKind.i64.wrap (x3_1 - 1)) = ji10 := (i64_w _).trans hji10
         by_cases c11 : 0 ≤ (ji10)
         ·rw [if_pos c11] at H
          have c11b0 : decide (0 ≤ (ji10)) = true := decide_eq_true c11
          clear c11
          by_cases c12 : (ji10) < (l0.length : Int)
          ·rw [if_pos c12] at H
           have c12b0 : decide ((ji10) < (l0.length : Int)) = true := decide_eq_true c12
           clear c12
           by_cases c13 : ((rd_T68 l0 (ji10)).f0) ≥ ((rd_T68 l0 x3_1).f0)
           ·rw [if_pos c13] at H
            have c13b0 : decide (((rd_T68 l0 x3_1).f0) ≤ ((rd_T68 l0 (ji10)).f0)) = true := decide_eq_true c13
            clear c13
            obtain rfl := Option.some.inj H
            try go_wp2
            have n0_ := Aside0.mk (below_drew1 HB.out)
            clear HB
            have HB := n0_
            clear n0_
            have jj : 0 ≤ (x3_1 : Int) := of_decide_eq_true (by first | (with_reducible assumption) | assumption)
            have jk : x3_1 < (l0.length : Int) := of_decide_eq_true (by first | (with_reducible assumption) | assumption)
            obtain ⟨ja, jv, jd, je⟩ := at_T68 HR0.out x3_1 jj jk
            have jb := je
            have jc := jd
            cases jv
            replace jd := (HB.out.cell (World.block_lt_of_cell? w _ jd)).trans jd
            replace je := (HB.out.cell (World.block_lt_of_cell? w _ je)).trans je
            replace jj := eq_true jj
            replace jk := eq_true jk
            have jl : 0 ≤ (x3_1 : Int) := of_decide_eq_true (by first | (with_reducible assumption) | assumption)
            have jm : x3_1 < (l0.length : Int) := of_decide_eq_true (by first | (with_reducible assumption) | assumption)
            obtain ⟨jz, jx, ji, jh⟩ := at_T68 HR0.out x3_1 jl jm
            have jg := jh
            have jf := ji
            obtain rfl : ja = jz := (by injection jx)
            replace ji := (HB.out.cell (World.block_lt_of_cell? w _ ji)).trans ji
            replace jh := (HB.out.cell (World.block_lt_of_cell? w _ jh)).trans jh
            replace jl := eq_true jl
            replace jm := eq_true jm
            have jy : 0 ≤ ((ji10) : Int) := of_decide_eq_true (by first | (with_reducible assumption) | assumption)
            have jB : (ji10) < (l0.length : Int) := of_decide_eq_true (by first | (with_reducible assumption) | assumption)
            obtain ⟨jE, jD, ju, jt⟩ := at_T68 HR0.out (ji10) jy jB
            have jn := jt
            have jo := ju
            obtain rfl : ja = jE := (by injection jD)
            replace ju := (HB.out.cell (World.block_lt_of_cell? w _ ju)).trans ju
            replace jt := (HB.out.cell (World.block_lt_of_cell? w _ jt)).trans jt
            replace jy := eq_true jy
            replace jB := eq_true jB
            have jw : 0 ≤ (x3_1 : Int) := of_decide_eq_true (by first | (with_reducible assumption) | assumption)
            have jA : x3_1 < (l0.length : Int) := of_decide_eq_true (by first | (with_reducible assumption) | assumption)
            obtain ⟨jF, jG, js, jr⟩ := at_T68 HR0.out x3_1 jw jA
            have jq := jr
            have jp := js
            obtain rfl : ja = jF := (by injection jG)
            replace js := (HB.out.cell (World.block_lt_of_cell? w _ js)).trans js
            replace jr := (HB.out.cell (World.block_lt_of_cell? w _ jr)).trans jr
            replace jw := eq_true jw
            replace jA := eq_true jA
            refine start_ (n := 34) (S := fun w' => w'.cell? (ja.add ((x3_1).toNat * 2)) = some (.int .i64 ((rd_T68 l0 x3_1).f0)) ∧ w'.cell? ⟨(ja.add ((x3_1).toNat * 2)).block, (ja.add ((x3_1).toNat * 2)).off + 1, none⟩ = some (.int .i64 ((rd_T68 l0 x3_1).f1)) ∧ w'.cell? (ja.add ((x3_1).toNat * 2)) = some (.int .i64 ((rd_T68 l0 x3_1).f0)) ∧ w'.cell? ⟨(ja.add ((x3_1).toNat * 2)).block, (ja.add ((x3_1).toNat * 2)).off + 1, none⟩ = some (.int .i64 ((rd_T68 l0 x3_1).f1)) ∧ w'.cell? (ja.add (((ji10)).toNat * 2)) = some (.int .i64 ((rd_T68 l0 (ji10)).f0)) ∧ w'.cell? ⟨(ja.add (((ji10)).toNat * 2)).block, (ja.add (((ji10)).toNat * 2)).off + 1, none⟩ = some (.int .i64 ((rd_T68 l0 (ji10)).f1)) ∧ w'.cell? (ja.add ((x3_1).toNat * 2)) = some (.int .i64 ((rd_T68 l0 x3_1).f0)) ∧ w'.cell? ⟨(ja.add ((x3_1).toNat * 2)).block, (ja.add ((x3_1).toNat * 2)).off + 1, none⟩ = some (.int .i64 ((rd_T68 l0 x3_1).f1))) (ds := []) (bt_ 34 0) (by kernel_rfl) rfl rfl ⟨((HB.out.cell (World.block_lt_of_cell? w _ jc)).trans jc), ((HB.out.cell (World.block_lt_of_cell? w _ jb)).trans jb), ((HB.out.cell (World.block_lt_of_cell? w _ jf)).trans jf), ((HB.out.cell (World.block_lt_of_cell? w _ jg)).trans jg), ((HB.out.cell (World.block_lt_of_cell? w _ jo)).trans jo), ((HB.out.cell (World.block_lt_of_cell? w _ jn)).trans jn), ((HB.out.cell (World.block_lt_of_cell? w _ jp)).trans jp), ((HB.out.cell (World.block_lt_of_cell? w _ jq)).trans jq)⟩ (fun hHeld => ?_); refine with_tabW spec_l1Pairs.tab6 spec_l1Pairs.bits6 (fun HT_ HW_ => ?_)
            generalize wr.drew = w14 at HB jd je ji jh ju jt js jr hHeld ⊢
            refine pu_ 0 (some 13) (bt_ 34 1) (any_of HT_.out (by kernel_rfl)) ?_
            refine pu_ 1 (some 14) (bt_ 34 3) (any_of HT_.out (by kernel_rfl)) ?_
            refine pu_ 2 (some 15) (bt_ 34 7) (any_of HT_.out (by kernel_rfl)) ?_
            refine pu_ 3 (some 16) (bt_ 34 15) (any_of HT_.out (by kernel_rfl)) ?_
            refine tk_ 4 (some 17) (bt_ 34 31) (take_ofW HT_.out HW_.out (by kernel_rfl)) hHeld ?_
            refine one_ (i := 5) (N := some 18) (bt_ 34 63) rfl rfl (one_of HT_.out (by kernel_rfl)) (by decide) (fun K hK => ?_)
            refine goes_ Try.func21 (by kernel_rfl) rfl #[.int .i64 ((rd_T68 l0 x3_1).f0), .int .i64 0, .int .i64 31] (by rfl) rfl rfl (by (try simp only [List.map_toArray, List.map_cons, List.map_nil]); first | done | rfl | (simp only [List.length_drop, List.length_take]; rfl)) ?_
            with_reducible refine (spec_l6In.calls ((rd_T68 l0 x3_1).f0) 0 31 true _ A5.out).mono ?_
            rintro e w' ⟨rfl, ⟨nd, rfl⟩⟩
            refine ⟨_, rfl, ?_⟩
            refine hK.out _ _ ⟨((HB.out.cell (World.block_lt_of_cell? w _ jc)).trans jc), ((HB.out.cell (World.block_lt_of_cell? w _ jb)).trans jb), ((HB.out.cell (World.block_lt_of_cell? w _ jf)).trans jf), ((HB.out.cell (World.block_lt_of_cell? w _ jg)).trans jg), ((HB.out.cell (World.block_lt_of_cell? w _ jo)).trans jo), ((HB.out.cell (World.block_lt_of_cell? w _ jn)).trans jn), ((HB.out.cell (World.block_lt_of_cell? w _ jp)).trans jp), ((HB.out.cell (World.block_lt_of_cell? w _ jq)).trans jq)⟩ (fun hHeld => ?_)
            clear hK K
            refine norm_ (a' := ?_) ?_ ?_
            rotate_left
            ·show Act.put _ (some 18) _ = _
             simp only [Act.put, List.setIfInBounds_toArray, List.set_cons_zero, List.set_cons_succ, i64_w, i32_w]
             rfl
            refine pu_ 6 (some 19) (bt_ 34 127) (any_of HT_.out (by kernel_rfl)) ?_
            refine pu_ 7 (some 20) (bt_ 34 255) (any_of HT_.out (by kernel_rfl)) ?_
            refine pu_ 8 (some 21) (bt_ 34 511) (any_of HT_.out (by kernel_rfl)) ?_
            refine pu_ 9 (some 22) (bt_ 34 1023) (any_of HT_.out (by kernel_rfl)) ?_
            refine pu_ 10 (some 23) (bt_ 34 2047) (any_of HT_.out (by kernel_rfl)) ?_
            refine pu_ 11 (some 24) (bt_ 34 4095) (any_of HT_.out (by kernel_rfl)) ?_
            refine tk_ 12 (some 25) (bt_ 34 8191) (take_ofW HT_.out HW_.out (by kernel_rfl)) hHeld ?_
            refine one_ (i := 13) (N := some 26) (bt_ 34 16383) rfl rfl (one_of HT_.out (by kernel_rfl)) (by decide) (fun K hK => ?_)
            refine goes_ Try.func51 (by kernel_rfl) rfl #[.int .i64 ((rd_T68 l0 x3_1).f1)] (by rfl) rfl rfl (by (try simp only [List.map_toArray, List.map_cons, List.map_nil]); first | done | rfl | (simp only [List.length_drop, List.length_take]; rfl)) ?_
            with_reducible refine (spec_l1Val.calls ((rd_T68 l0 x3_1).f1) true _ A7.out).mono ?_
            rintro e w' ⟨rfl, ⟨nd, rfl⟩⟩
            refine ⟨_, rfl, ?_⟩
            refine hK.out _ _ ⟨((HB.out.cell (World.block_lt_of_cell? w _ jc)).trans jc), ((HB.out.cell (World.block_lt_of_cell? w _ jb)).trans jb), ((HB.out.cell (World.block_lt_of_cell? w _ jf)).trans jf), ((HB.out.cell (World.block_lt_of_cell? w _ jg)).trans jg), ((HB.out.cell (World.block_lt_of_cell? w _ jo)).trans jo), ((HB.out.cell (World.block_lt_of_cell? w _ jn)).trans jn), ((HB.out.cell (World.block_lt_of_cell? w _ jp)).trans jp), ((HB.out.cell (World.block_lt_of_cell? w _ jq)).trans jq)⟩ (fun hHeld => ?_)
            clear hK K
            refine norm_ (a' := ?_) ?_ ?_
            rotate_left
            ·show Act.put _ (some 26) _ = _
             simp only [Act.put, List.setIfInBounds_toArray, List.set_cons_zero, List.set_cons_succ, i64_w, i32_w]
             rfl
            refine pu_ 14 (some 27) (bt_ 34 32767) (any_of HT_.out (by kernel_rfl)) ?_
            refine pu_ 15 (some 28) (bt_ 34 65535) (any_of HT_.out (by kernel_rfl)) ?_
            refine pu_ 16 (some 29) (bt_ 34 131071) (any_of HT_.out (by kernel_rfl)) ?_
            refine pu_ 17 (some 30) (bt_ 34 262143) (any_of HT_.out (by kernel_rfl)) ?_
            refine pu_ 18 (some 31) (bt_ 34 524287) (any_of HT_.out (by kernel_rfl)) ?_
            refine pu_ 19 (some 32) (bt_ 34 1048575) (any_of HT_.out (by kernel_rfl)) ?_
            refine pu_ 20 (some 33) (bt_ 34 2097151) (any_of HT_.out (by kernel_rfl)) ?_
            refine pu_ 21 (some 34) (bt_ 34 4194303) (any_of HT_.out (by kernel_rfl)) ?_
            refine pu_ 22 (some 35) (bt_ 34 8388607) (any_of HT_.out (by kernel_rfl)) ?_
            refine pu_ 23 (some 36) (bt_ 34 16777215) (any_of HT_.out (by kernel_rfl)) ?_
            refine pu_ 24 (some 37) (bt_ 34 33554431) (any_of HT_.out (by kernel_rfl)) ?_
            refine pu_ 26 (some 39) (bt_ 34 100663295) (any_of HT_.out (by kernel_rfl)) ?_
            refine pu_ 27 (some 40) (bt_ 34 234881023) (any_of HT_.out (by kernel_rfl)) ?_
            refine pu_ 28 (some 41) (bt_ 34 503316479) (any_of HT_.out (by kernel_rfl)) ?_
            refine pu_ 29 (some 42) (bt_ 34 1040187391) (any_of HT_.out (by kernel_rfl)) ?_
            refine tk_ 25 (some 38) (bt_ 34 1073741823) (take_ofW HT_.out HW_.out (by kernel_rfl)) hHeld ?_
            refine tk_ 30 (some 43) (bt_ 34 2147483647) (take_ofW HT_.out HW_.out (by kernel_rfl)) hHeld ?_
            refine pu_ 31 (some 44) (bt_ 34 4294967295) (any_of HT_.out (by kernel_rfl)) ?_
            refine pu_ 32 (some 45) (bt_ 34 8589934591) (any_of HT_.out (by kernel_rfl)) ?_
            refine pu_ 33 (some 46) (bt_ 34 17179869183) (any_of HT_.out (by kernel_rfl)) ?_
            refine done_ (done_of HT_.out (by kernel_rfl)) ?_
            try go_wp2
            go_ret
            exact ⟨by first | rfl | (simp [errW_none, errW_some] <;> rfl) | (simp only [← hji10]; first | rfl | (simp [errW_none, errW_some] <;> rfl)) | (simp [*, errW_none, errW_some] <;> rfl), by repeat (first | (with_reducible first | exact HB.out | apply below_alloc | apply pw_below_drewN | apply below_drew1) | exact HB.out)⟩
           ·rw [if_neg c13] at H
            have c13b0 : decide (((rd_T68 l0 x3_1).f0) ≤ ((rd_T68 l0 (ji10)).f0)) = false := decide_eq_false c13
            clear c13
            have H' := Aside0.mk H
            clear H
            try go_wp2
            have n0_ := Aside0.mk (below_drew1 HB.out)
            clear HB
            have HB := n0_
            clear n0_
            have jj : 0 ≤ (x3_1 : Int) := of_decide_eq_true (by first | (with_reducible assumption) | assumption)
            have jk : x3_1 < (l0.length : Int) := of_decide_eq_true (by first | (with_reducible assumption) | assumption)
            obtain ⟨ja, jv, jd, je⟩ := at_T68 HR0.out x3_1 jj jk
            have jb := je
            have jc := jd
            cases jv
            replace jd := (HB.out.cell (World.block_lt_of_cell? w _ jd)).trans jd
            replace je := (HB.out.cell (World.block_lt_of_cell? w _ je)).trans je
            replace jj := eq_true jj
            replace jk := eq_true jk
            have jl : 0 ≤ (x3_1 : Int) := of_decide_eq_true (by first | (with_reducible assumption) | assumption)
            have jm : x3_1 < (l0.length : Int) := of_decide_eq_true (by first | (with_reducible assumption) | assumption)
            obtain ⟨jz, jx, ji, jh⟩ := at_T68 HR0.out x3_1 jl jm
            have jg := jh
            have jf := ji
            obtain rfl : ja = jz := (by injection jx)
            replace ji := (HB.out.cell (World.block_lt_of_cell? w _ ji)).trans ji
            replace jh := (HB.out.cell (World.block_lt_of_cell? w _ jh)).trans jh
            replace jl := eq_true jl
            replace jm := eq_true jm
            have jy : 0 ≤ ((ji10) : Int) := of_decide_eq_true (by first | (with_reducible assumption) | assumption)
            have jB : (ji10) < (l0.length : Int) := of_decide_eq_true (by first | (with_reducible assumption) | assumption)
            obtain ⟨jE, jD, ju, jt⟩ := at_T68 HR0.out (ji10) jy jB
            have jn := jt
            have jo := ju
            obtain rfl : ja = jE := (by injection jD)
            replace ju := (HB.out.cell (World.block_lt_of_cell? w _ ju)).trans ju
            replace jt := (HB.out.cell (World.block_lt_of_cell? w _ jt)).trans jt
            replace jy := eq_true jy
            replace jB := eq_true jB
            have jw : 0 ≤ (x3_1 : Int) := of_decide_eq_true (by first | (with_reducible assumption) | assumption)
            have jA : x3_1 < (l0.length : Int) := of_decide_eq_true (by first | (with_reducible assumption) | assumption)
            obtain ⟨jF, jG, js, jr⟩ := at_T68 HR0.out x3_1 jw jA
            have jq := jr
            have jp := js
            obtain rfl : ja = jF := (by injection jG)
            replace js := (HB.out.cell (World.block_lt_of_cell? w _ js)).trans js
            replace jr := (HB.out.cell (World.block_lt_of_cell? w _ jr)).trans jr
            replace jw := eq_true jw
            replace jA := eq_true jA
            refine start_ (n := 34) (S := fun w' => w'.cell? (ja.add ((x3_1).toNat * 2)) = some (.int .i64 ((rd_T68 l0 x3_1).f0)) ∧ w'.cell? ⟨(ja.add ((x3_1).toNat * 2)).block, (ja.add ((x3_1).toNat * 2)).off + 1, none⟩ = some (.int .i64 ((rd_T68 l0 x3_1).f1)) ∧ w'.cell? (ja.add ((x3_1).toNat * 2)) = some (.int .i64 ((rd_T68 l0 x3_1).f0)) ∧ w'.cell? ⟨(ja.add ((x3_1).toNat * 2)).block, (ja.add ((x3_1).toNat * 2)).off + 1, none⟩ = some (.int .i64 ((rd_T68 l0 x3_1).f1)) ∧ w'.cell? (ja.add (((ji10)).toNat * 2)) = some (.int .i64 ((rd_T68 l0 (ji10)).f0)) ∧ w'.cell? ⟨(ja.add (((ji10)).toNat * 2)).block, (ja.add (((ji10)).toNat * 2)).off + 1, none⟩ = some (.int .i64 ((rd_T68 l0 (ji10)).f1)) ∧ w'.cell? (ja.add ((x3_1).toNat * 2)) = some (.int .i64 ((rd_T68 l0 x3_1).f0)) ∧ w'.cell? ⟨(ja.add ((x3_1).toNat * 2)).block, (ja.add ((x3_1).toNat * 2)).off + 1, none⟩ = some (.int .i64 ((rd_T68 l0 x3_1).f1))) (ds := []) (bt_ 34 0) (by kernel_rfl) rfl rfl ⟨((HB.out.cell (World.block_lt_of_cell? w _ jc)).trans jc), ((HB.out.cell (World.block_lt_of_cell? w _ jb)).trans jb), ((HB.out.cell (World.block_lt_of_cell? w _ jf)).trans jf), ((HB.out.cell (World.block_lt_of_cell? w _ jg)).trans jg), ((HB.out.cell (World.block_lt_of_cell? w _ jo)).trans jo), ((HB.out.cell (World.block_lt_of_cell? w _ jn)).trans jn), ((HB.out.cell (World.block_lt_of_cell? w _ jp)).trans jp), ((HB.out.cell (World.block_lt_of_cell? w _ jq)).trans jq)⟩ (fun hHeld => ?_); refine with_tabW spec_l1Pairs.tab6 spec_l1Pairs.bits6 (fun HT_ HW_ => ?_)
            generalize wr.drew = w15 at HB jd je ji jh ju jt js jr hHeld ⊢
            refine pu_ 0 (some 13) (bt_ 34 1) (any_of HT_.out (by kernel_rfl)) ?_
            refine pu_ 1 (some 14) (bt_ 34 3) (any_of HT_.out (by kernel_rfl)) ?_
            refine pu_ 2 (some 15) (bt_ 34 7) (any_of HT_.out (by kernel_rfl)) ?_
            refine pu_ 3 (some 16) (bt_ 34 15) (any_of HT_.out (by kernel_rfl)) ?_
            refine tk_ 4 (some 17) (bt_ 34 31) (take_ofW HT_.out HW_.out (by kernel_rfl)) hHeld ?_
            refine one_ (i := 5) (N := some 18) (bt_ 34 63) rfl rfl (one_of HT_.out (by kernel_rfl)) (by decide) (fun K hK => ?_)
            refine goes_ Try.func21 (by kernel_rfl) rfl #[.int .i64 ((rd_T68 l0 x3_1).f0), .int .i64 0, .int .i64 31] (by rfl) rfl rfl (by (try simp only [List.map_toArray, List.map_cons, List.map_nil]); first | done | rfl | (simp only [List.length_drop, List.length_take]; rfl)) ?_
            with_reducible refine (spec_l6In.calls ((rd_T68 l0 x3_1).f0) 0 31 true _ A5.out).mono ?_
            rintro e w' ⟨rfl, ⟨nd, rfl⟩⟩
            refine ⟨_, rfl, ?_⟩
            refine hK.out _ _ ⟨((HB.out.cell (World.block_lt_of_cell? w _ jc)).trans jc), ((HB.out.cell (World.block_lt_of_cell? w _ jb)).trans jb), ((HB.out.cell (World.block_lt_of_cell? w _ jf)).trans jf), ((HB.out.cell (World.block_lt_of_cell? w _ jg)).trans jg), ((HB.out.cell (World.block_lt_of_cell? w _ jo)).trans jo), ((HB.out.cell (World.block_lt_of_cell? w _ jn)).trans jn), ((HB.out.cell (World.block_lt_of_cell? w _ jp)).trans jp), ((HB.out.cell (World.block_lt_of_cell? w _ jq)).trans jq)⟩ (fun hHeld => ?_)
            clear hK K
            refine norm_ (a' := ?_) ?_ ?_
            rotate_left
            ·show Act.put _ (some 18) _ = _
             simp only [Act.put, List.setIfInBounds_toArray, List.set_cons_zero, List.set_cons_succ, i64_w, i32_w]
             rfl
            refine pu_ 6 (some 19) (bt_ 34 127) (any_of HT_.out (by kernel_rfl)) ?_
            refine pu_ 7 (some 20) (bt_ 34 255) (any_of HT_.out (by kernel_rfl)) ?_
            refine pu_ 8 (some 21) (bt_ 34 511) (any_of HT_.out (by kernel_rfl)) ?_
            refine pu_ 9 (some 22) (bt_ 34 1023) (any_of HT_.out (by kernel_rfl)) ?_
            refine pu_ 10 (some 23) (bt_ 34 2047) (any_of HT_.out (by kernel_rfl)) ?_
            refine pu_ 11 (some 24) (bt_ 34 4095) (any_of HT_.out (by kernel_rfl)) ?_
            refine tk_ 12 (some 25) (bt_ 34 8191) (take_ofW HT_.out HW_.out (by kernel_rfl)) hHeld ?_
            refine one_ (i := 13) (N := some 26) (bt_ 34 16383) rfl rfl (one_of HT_.out (by kernel_rfl)) (by decide) (fun K hK => ?_)
            refine goes_ Try.func51 (by kernel_rfl) rfl #[.int .i64 ((rd_T68 l0 x3_1).f1)] (by rfl) rfl rfl (by (try simp only [List.map_toArray, List.map_cons, List.map_nil]); first | done | rfl | (simp only [List.length_drop, List.length_take]; rfl)) ?_
            with_reducible refine (spec_l1Val.calls ((rd_T68 l0 x3_1).f1) true _ A7.out).mono ?_
            rintro e w' ⟨rfl, ⟨nd, rfl⟩⟩
            refine ⟨_, rfl, ?_⟩
            refine hK.out _ _ ⟨((HB.out.cell (World.block_lt_of_cell? w _ jc)).trans jc), ((HB.out.cell (World.block_lt_of_cell? w _ jb)).trans jb), ((HB.out.cell (World.block_lt_of_cell? w _ jf)).trans jf), ((HB.out.cell (World.block_lt_of_cell? w _ jg)).trans jg), ((HB.out.cell (World.block_lt_of_cell? w _ jo)).trans jo), ((HB.out.cell (World.block_lt_of_cell? w _ jn)).trans jn), ((HB.out.cell (World.block_lt_of_cell? w _ jp)).trans jp), ((HB.out.cell (World.block_lt_of_cell? w _ jq)).trans jq)⟩ (fun hHeld => ?_)
            clear hK K
            refine norm_ (a' := ?_) ?_ ?_
            rotate_left
            ·show Act.put _ (some 26) _ = _
             simp only [Act.put, List.setIfInBounds_toArray, List.set_cons_zero, List.set_cons_succ, i64_w, i32_w]
             rfl
            refine pu_ 14 (some 27) (bt_ 34 32767) (any_of HT_.out (by kernel_rfl)) ?_
            refine pu_ 15 (some 28) (bt_ 34 65535) (any_of HT_.out (by kernel_rfl)) ?_
            refine pu_ 16 (some 29) (bt_ 34 131071) (any_of HT_.out (by kernel_rfl)) ?_
            refine pu_ 17 (some 30) (bt_ 34 262143) (any_of HT_.out (by kernel_rfl)) ?_
            refine pu_ 18 (some 31) (bt_ 34 524287) (any_of HT_.out (by kernel_rfl)) ?_
            refine pu_ 19 (some 32) (bt_ 34 1048575) (any_of HT_.out (by kernel_rfl)) ?_
            refine pu_ 20 (some 33) (bt_ 34 2097151) (any_of HT_.out (by kernel_rfl)) ?_
            refine pu_ 21 (some 34) (bt_ 34 4194303) (any_of HT_.out (by kernel_rfl)) ?_
            refine pu_ 22 (some 35) (bt_ 34 8388607) (any_of HT_.out (by kernel_rfl)) ?_
            refine pu_ 23 (some 36) (bt_ 34 16777215) (any_of HT_.out (by kernel_rfl)) ?_
            refine pu_ 24 (some 37) (bt_ 34 33554431) (any_of HT_.out (by kernel_rfl)) ?_
            refine pu_ 26 (some 39) (bt_ 34 100663295) (any_of HT_.out (by kernel_rfl)) ?_
            refine pu_ 27 (some 40) (bt_ 34 234881023) (any_of HT_.out (by kernel_rfl)) ?_
            refine pu_ 28 (some 41) (bt_ 34 503316479) (any_of HT_.out (by kernel_rfl)) ?_
            refine pu_ 29 (some 42) (bt_ 34 1040187391) (any_of HT_.out (by kernel_rfl)) ?_
            refine tk_ 25 (some 38) (bt_ 34 1073741823) (take_ofW HT_.out HW_.out (by kernel_rfl)) hHeld ?_
            refine tk_ 30 (some 43) (bt_ 34 2147483647) (take_ofW HT_.out HW_.out (by kernel_rfl)) hHeld ?_
            refine pu_ 31 (some 44) (bt_ 34 4294967295) (any_of HT_.out (by kernel_rfl)) ?_
            refine pu_ 32 (some 45) (bt_ 34 8589934591) (any_of HT_.out (by kernel_rfl)) ?_
            refine pu_ 33 (some 46) (bt_ 34 17179869183) (any_of HT_.out (by kernel_rfl)) ?_
            refine done_ (done_of HT_.out (by kernel_rfl)) ?_
            try go_wp2
            go_roundg k1
            case measure => have := HK1.out; omega
            case rel => exact ⟨(wrap64 (x3_1 + 1)), (by first | rfl | (simp; done) | (simp [*]; done)), H', ⟨by have := HK1.out; omega⟩, ⟨hb_ HB.out⟩⟩
          ·rw [if_neg c12] at H
           exact absurd H (by simp)
         ·rw [if_neg c11] at H
          exact absurd H (by simp)
        ·rw [if_neg c9] at H
         have c9b0 : decide (0 < x3_1) = false := decide_eq_false c9
         clear c9
         have H' := Aside0.mk H
         clear H
         try go_wp2
         have n0_ := Aside0.mk (below_drew1 HB.out)
         clear HB
         have HB := n0_
         clear n0_
         have jj : 0 ≤ (x3_1 : Int) := of_decide_eq_true (by first | (with_reducible assumption) | assumption)
         have jk : x3_1 < (l0.length : Int) := of_decide_eq_true (by first | (with_reducible assumption) | assumption)
         obtain ⟨ja, jv, jd, je⟩ := at_T68 HR0.out x3_1 jj jk
         have jb := je
         have jc := jd
         cases jv
         replace jd := (HB.out.cell (World.block_lt_of_cell? w _ jd)).trans jd
         replace je := (HB.out.cell (World.block_lt_of_cell? w _ je)).trans je
         replace jj := eq_true jj
         replace jk := eq_true jk
         have jl : 0 ≤ (x3_1 : Int) := of_decide_eq_true (by first | (with_reducible assumption) | assumption)
         have jm : x3_1 < (l0.length : Int) := of_decide_eq_true (by first | (with_reducible assumption) | assumption)
         obtain ⟨jz, jx, ji, jh⟩ := at_T68 HR0.out x3_1 jl jm
         have jg := jh
         have jf := ji
         obtain rfl : ja = jz := (by injection jx)
         replace ji := (HB.out.cell (World.block_lt_of_cell? w _ ji)).trans ji
         replace jh := (HB.out.cell (World.block_lt_of_cell? w _ jh)).trans jh
         replace jl := eq_true jl
         replace jm := eq_true jm
         refine start_ (n := 34) (S := fun w' => w'.cell? (ja.add ((x3_1).toNat * 2)) = some (.int .i64 ((rd_T68 l0 x3_1).f0)) ∧ w'.cell? ⟨(ja.add ((x3_1).toNat * 2)).block, (ja.add ((x3_1).toNat * 2)).off + 1, none⟩ = some (.int .i64 ((rd_T68 l0 x3_1).f1)) ∧ w'.cell? (ja.add ((x3_1).toNat * 2)) = some (.int .i64 ((rd_T68 l0 x3_1).f0)) ∧ w'.cell? ⟨(ja.add ((x3_1).toNat * 2)).block, (ja.add ((x3_1).toNat * 2)).off + 1, none⟩ = some (.int .i64 ((rd_T68 l0 x3_1).f1))) (ds := []) (bt_ 34 0) (by kernel_rfl) rfl rfl ⟨((HB.out.cell (World.block_lt_of_cell? w _ jc)).trans jc), ((HB.out.cell (World.block_lt_of_cell? w _ jb)).trans jb), ((HB.out.cell (World.block_lt_of_cell? w _ jf)).trans jf), ((HB.out.cell (World.block_lt_of_cell? w _ jg)).trans jg)⟩ (fun hHeld => ?_); refine with_tabW spec_l1Pairs.tab6 spec_l1Pairs.bits6 (fun HT_ HW_ => ?_)
         generalize wr.drew = w16 at HB jd je ji jh hHeld ⊢
         refine pu_ 0 (some 13) (bt_ 34 1) (any_of HT_.out (by kernel_rfl)) ?_
         refine pu_ 1 (some 14) (bt_ 34 3) (any_of HT_.out (by kernel_rfl)) ?_
         refine pu_ 2 (some 15) (bt_ 34 7) (any_of HT_.out (by kernel_rfl)) ?_
         refine pu_ 3 (some 16) (bt_ 34 15) (any_of HT_.out (by kernel_rfl)) ?_
         refine tk_ 4 (some 17) (bt_ 34 31) (take_ofW HT_.out HW_.out (by kernel_rfl)) hHeld ?_
         refine one_ (i := 5) (N := some 18) (bt_ 34 63) rfl rfl (one_of HT_.out (by kernel_rfl)) (by decide) (fun K hK => ?_)
         refine goes_ Try.func21 (by kernel_rfl) rfl #[.int .i64 ((rd_T68 l0 x3_1).f0), .int .i64 0, .int .i64 31] (by rfl) rfl rfl (by (try simp only [List.map_toArray, List.map_cons, List.map_nil]); first | done | rfl | (simp only [List.length_drop, List.length_take]; rfl)) ?_
         with_reducible refine (spec_l6In.calls ((rd_T68 l0 x3_1).f0) 0 31 true _ A5.out).mono ?_
         rintro e w' ⟨rfl, ⟨nd, rfl⟩⟩
         refine ⟨_, rfl, ?_⟩
         refine hK.out _ _ ⟨((HB.out.cell (World.block_lt_of_cell? w _ jc)).trans jc), ((HB.out.cell (World.block_lt_of_cell? w _ jb)).trans jb), ((HB.out.cell (World.block_lt_of_cell? w _ jf)).trans jf), ((HB.out.cell (World.block_lt_of_cell? w _ jg)).trans jg)⟩ (fun hHeld => ?_)
         clear hK K
         refine norm_ (a' := ?_) ?_ ?_
         rotate_left
         ·show Act.put _ (some 18) _ = _
          simp only [Act.put, List.setIfInBounds_toArray, List.set_cons_zero, List.set_cons_succ, i64_w, i32_w]
          rfl
         refine pu_ 6 (some 19) (bt_ 34 127) (any_of HT_.out (by kernel_rfl)) ?_
         refine pu_ 7 (some 20) (bt_ 34 255) (any_of HT_.out (by kernel_rfl)) ?_
         refine pu_ 8 (some 21) (bt_ 34 511) (any_of HT_.out (by kernel_rfl)) ?_
         refine pu_ 9 (some 22) (bt_ 34 1023) (any_of HT_.out (by kernel_rfl)) ?_
         refine pu_ 10 (some 23) (bt_ 34 2047) (any_of HT_.out (by kernel_rfl)) ?_
         refine pu_ 11 (some 24) (bt_ 34 4095) (any_of HT_.out (by kernel_rfl)) ?_
         refine tk_ 12 (some 25) (bt_ 34 8191) (take_ofW HT_.out HW_.out (by kernel_rfl)) hHeld ?_
         refine one_ (i := 13) (N := some 26) (bt_ 34 16383) rfl rfl (one_of HT_.out (by kernel_rfl)) (by decide) (fun K hK => ?_)
         refine goes_ Try.func51 (by kernel_rfl) rfl #[.int .i64 ((rd_T68 l0 x3_1).f1)] (by rfl) rfl rfl (by (try simp only [List.map_toArray, List.map_cons, List.map_nil]); first | done | rfl | (simp only [List.length_drop, List.length_take]; rfl)) ?_
         with_reducible refine (spec_l1Val.calls ((rd_T68 l0 x3_1).f1) true _ A7.out).mono ?_
         rintro e w' ⟨rfl, ⟨nd, rfl⟩⟩
         refine ⟨_, rfl, ?_⟩
         refine hK.out _ _ ⟨((HB.out.cell (World.block_lt_of_cell? w _ jc)).trans jc), ((HB.out.cell (World.block_lt_of_cell? w _ jb)).trans jb), ((HB.out.cell (World.block_lt_of_cell? w _ jf)).trans jf), ((HB.out.cell (World.block_lt_of_cell? w _ jg)).trans jg)⟩ (fun hHeld => ?_)
         clear hK K
         refine norm_ (a' := ?_) ?_ ?_
         rotate_left
         ·show Act.put _ (some 26) _ = _
          simp only [Act.put, List.setIfInBounds_toArray, List.set_cons_zero, List.set_cons_succ, i64_w, i32_w]
          rfl
         refine pu_ 14 (some 27) (bt_ 34 32767) (any_of HT_.out (by kernel_rfl)) ?_
         refine pu_ 15 (some 28) (bt_ 34 65535) (any_of HT_.out (by kernel_rfl)) ?_
         refine pu_ 16 (some 29) (bt_ 34 131071) (any_of HT_.out (by kernel_rfl)) ?_
         refine pu_ 17 (some 30) (bt_ 34 262143) (any_of HT_.out (by kernel_rfl)) ?_
         refine pu_ 18 (some 31) (bt_ 34 524287) (any_of HT_.out (by kernel_rfl)) ?_
         refine pu_ 19 (some 32) (bt_ 34 1048575) (any_of HT_.out (by kernel_rfl)) ?_
         refine pn_ 20 (some 33) (bt_ 34 2097151) (any_of HT_.out (by kernel_rfl)) ?_
         refine pn_ 21 (some 34) (bt_ 34 4194303) (any_of HT_.out (by kernel_rfl)) ?_
         refine pn_ 22 (some 35) (bt_ 34 8388607) (any_of HT_.out (by kernel_rfl)) ?_
         refine pn_ 23 (some 36) (bt_ 34 16777215) (any_of HT_.out (by kernel_rfl)) ?_
         refine pn_ 24 (some 37) (bt_ 34 33554431) (any_of HT_.out (by kernel_rfl)) ?_
         refine pn_ 25 (some 38) (bt_ 34 67108863) (any_of HT_.out (by kernel_rfl)) ?_
         refine pn_ 26 (some 39) (bt_ 34 134217727) (any_of HT_.out (by kernel_rfl)) ?_
         refine pn_ 27 (some 40) (bt_ 34 268435455) (any_of HT_.out (by kernel_rfl)) ?_
         refine pn_ 28 (some 41) (bt_ 34 536870911) (any_of HT_.out (by kernel_rfl)) ?_
         refine pn_ 29 (some 42) (bt_ 34 1073741823) (any_of HT_.out (by kernel_rfl)) ?_
         refine pn_ 30 (some 43) (bt_ 34 2147483647) (any_of HT_.out (by kernel_rfl)) ?_
         refine pn_ 31 (some 44) (bt_ 34 4294967295) (any_of HT_.out (by kernel_rfl)) ?_
         refine pu_ 32 (some 45) (bt_ 34 8589934591) (any_of HT_.out (by kernel_rfl)) ?_
         refine pu_ 33 (some 46) (bt_ 34 17179869183) (any_of HT_.out (by kernel_rfl)) ?_
         refine done_ (done_of HT_.out (by kernel_rfl)) ?_
         try go_wp2
         go_roundg k1
         case measure => have := HK1.out; omega
         case rel => exact ⟨(wrap64 (x3_1 + 1)), (by first | rfl | (simp; done) | (simp [*]; done)), H', ⟨by have := HK1.out; omega⟩, ⟨hb_ HB.out⟩⟩
       ·replace c8 := Bool.eq_false_iff.mpr c8
        subst c8
        have H1 : (some false) = some r := by rw [if_neg (show ¬ (false = true) by decide)] at H; exact H
        clear H
        have H := H1
        clear H1
        obtain rfl := Option.some.inj H
        try go_wp2
        have n0_ := Aside0.mk (below_drew1 HB.out)
        clear HB
        have HB := n0_
        clear n0_
        have jj : 0 ≤ (x3_1 : Int) := of_decide_eq_true (by first | (with_reducible assumption) | assumption)
        have jk : x3_1 < (l0.length : Int) := of_decide_eq_true (by first | (with_reducible assumption) | assumption)
        obtain ⟨ja, jv, jd, je⟩ := at_T68 HR0.out x3_1 jj jk
        have jb := je
        have jc := jd
        cases jv
        replace jd := (HB.out.cell (World.block_lt_of_cell? w _ jd)).trans jd
        replace je := (HB.out.cell (World.block_lt_of_cell? w _ je)).trans je
        replace jj := eq_true jj
        replace jk := eq_true jk
        have jl : 0 ≤ (x3_1 : Int) := of_decide_eq_true (by first | (with_reducible assumption) | assumption)
        have jm : x3_1 < (l0.length : Int) := of_decide_eq_true (by first | (with_reducible assumption) | assumption)
        obtain ⟨jz, jx, ji, jh⟩ := at_T68 HR0.out x3_1 jl jm
        have jg := jh
        have jf := ji
        obtain rfl : ja = jz := (by injection jx)
        replace ji := (HB.out.cell (World.block_lt_of_cell? w _ ji)).trans ji
        replace jh := (HB.out.cell (World.block_lt_of_cell? w _ jh)).trans jh
        replace jl := eq_true jl
        replace jm := eq_true jm
        refine start_ (n := 34) (S := fun w' => w'.cell? (ja.add ((x3_1).toNat * 2)) = some (.int .i64 ((rd_T68 l0 x3_1).f0)) ∧ w'.cell? ⟨(ja.add ((x3_1).toNat * 2)).block, (ja.add ((x3_1).toNat * 2)).off + 1, none⟩ = some (.int .i64 ((rd_T68 l0 x3_1).f1)) ∧ w'.cell? (ja.add ((x3_1).toNat * 2)) = some (.int .i64 ((rd_T68 l0 x3_1).f0)) ∧ w'.cell? ⟨(ja.add ((x3_1).toNat * 2)).block, (ja.add ((x3_1).toNat * 2)).off + 1, none⟩ = some (.int .i64 ((rd_T68 l0 x3_1).f1))) (ds := []) (bt_ 34 0) (by kernel_rfl) rfl rfl ⟨((HB.out.cell (World.block_lt_of_cell? w _ jc)).trans jc), ((HB.out.cell (World.block_lt_of_cell? w _ jb)).trans jb), ((HB.out.cell (World.block_lt_of_cell? w _ jf)).trans jf), ((HB.out.cell (World.block_lt_of_cell? w _ jg)).trans jg)⟩ (fun hHeld => ?_); refine with_tabW spec_l1Pairs.tab6 spec_l1Pairs.bits6 (fun HT_ HW_ => ?_)
        generalize wr.drew = w17 at HB jd je ji jh hHeld ⊢
        refine pu_ 0 (some 13) (bt_ 34 1) (any_of HT_.out (by kernel_rfl)) ?_
        refine pu_ 1 (some 14) (bt_ 34 3) (any_of HT_.out (by kernel_rfl)) ?_
        refine pu_ 2 (some 15) (bt_ 34 7) (any_of HT_.out (by kernel_rfl)) ?_
        refine pu_ 3 (some 16) (bt_ 34 15) (any_of HT_.out (by kernel_rfl)) ?_
        refine tk_ 4 (some 17) (bt_ 34 31) (take_ofW HT_.out HW_.out (by kernel_rfl)) hHeld ?_
        refine one_ (i := 5) (N := some 18) (bt_ 34 63) rfl rfl (one_of HT_.out (by kernel_rfl)) (by decide) (fun K hK => ?_)
        refine goes_ Try.func21 (by kernel_rfl) rfl #[.int .i64 ((rd_T68 l0 x3_1).f0), .int .i64 0, .int .i64 31] (by rfl) rfl rfl (by (try simp only [List.map_toArray, List.map_cons, List.map_nil]); first | done | rfl | (simp only [List.length_drop, List.length_take]; rfl)) ?_
        with_reducible refine (spec_l6In.calls ((rd_T68 l0 x3_1).f0) 0 31 true _ A5.out).mono ?_
        rintro e w' ⟨rfl, ⟨nd, rfl⟩⟩
        refine ⟨_, rfl, ?_⟩
        refine hK.out _ _ ⟨((HB.out.cell (World.block_lt_of_cell? w _ jc)).trans jc), ((HB.out.cell (World.block_lt_of_cell? w _ jb)).trans jb), ((HB.out.cell (World.block_lt_of_cell? w _ jf)).trans jf), ((HB.out.cell (World.block_lt_of_cell? w _ jg)).trans jg)⟩ (fun hHeld => ?_)
        clear hK K
        refine norm_ (a' := ?_) ?_ ?_
        rotate_left
        ·show Act.put _ (some 18) _ = _
         simp only [Act.put, List.setIfInBounds_toArray, List.set_cons_zero, List.set_cons_succ, i64_w, i32_w]
         rfl
        refine pu_ 6 (some 19) (bt_ 34 127) (any_of HT_.out (by kernel_rfl)) ?_
        refine pu_ 7 (some 20) (bt_ 34 255) (any_of HT_.out (by kernel_rfl)) ?_
        refine pu_ 8 (some 21) (bt_ 34 511) (any_of HT_.out (by kernel_rfl)) ?_
        refine pu_ 9 (some 22) (bt_ 34 1023) (any_of HT_.out (by kernel_rfl)) ?_
        refine pu_ 10 (some 23) (bt_ 34 2047) (any_of HT_.out (by kernel_rfl)) ?_
        refine pu_ 11 (some 24) (bt_ 34 4095) (any_of HT_.out (by kernel_rfl)) ?_
        refine tk_ 12 (some 25) (bt_ 34 8191) (take_ofW HT_.out HW_.out (by kernel_rfl)) hHeld ?_
        refine one_ (i := 13) (N := some 26) (bt_ 34 16383) rfl rfl (one_of HT_.out (by kernel_rfl)) (by decide) (fun K hK => ?_)
        refine goes_ Try.func51 (by kernel_rfl) rfl #[.int .i64 ((rd_T68 l0 x3_1).f1)] (by rfl) rfl rfl (by (try simp only [List.map_toArray, List.map_cons, List.map_nil]); first | done | rfl | (simp only [List.length_drop, List.length_take]; rfl)) ?_
        with_reducible refine (spec_l1Val.calls ((rd_T68 l0 x3_1).f1) false _ A7.out).mono ?_
        rintro e w' ⟨rfl, ⟨nd, rfl⟩⟩
        refine ⟨_, rfl, ?_⟩
        refine hK.out _ _ ⟨((HB.out.cell (World.block_lt_of_cell? w _ jc)).trans jc), ((HB.out.cell (World.block_lt_of_cell? w _ jb)).trans jb), ((HB.out.cell (World.block_lt_of_cell? w _ jf)).trans jf), ((HB.out.cell (World.block_lt_of_cell? w _ jg)).trans jg)⟩ (fun hHeld => ?_)
        clear hK K
        refine norm_ (a' := ?_) ?_ ?_
        rotate_left
        ·show Act.put _ (some 26) _ = _
         simp only [Act.put, List.setIfInBounds_toArray, List.set_cons_zero, List.set_cons_succ, i64_w, i32_w]
         rfl
        refine pu_ 14 (some 27) (bt_ 34 32767) (any_of HT_.out (by kernel_rfl)) ?_
        refine pu_ 15 (some 28) (bt_ 34 65535) (any_of HT_.out (by kernel_rfl)) ?_
        refine pu_ 16 (some 29) (bt_ 34 131071) (any_of HT_.out (by kernel_rfl)) ?_
        refine pn_ 17 (some 30) (bt_ 34 262143) (any_of HT_.out (by kernel_rfl)) ?_
        refine pn_ 18 (some 31) (bt_ 34 524287) (any_of HT_.out (by kernel_rfl)) ?_
        refine pn_ 19 (some 32) (bt_ 34 1048575) (any_of HT_.out (by kernel_rfl)) ?_
        refine pn_ 20 (some 33) (bt_ 34 2097151) (any_of HT_.out (by kernel_rfl)) ?_
        refine pn_ 21 (some 34) (bt_ 34 4194303) (any_of HT_.out (by kernel_rfl)) ?_
        refine pn_ 22 (some 35) (bt_ 34 8388607) (any_of HT_.out (by kernel_rfl)) ?_
        refine pn_ 23 (some 36) (bt_ 34 16777215) (any_of HT_.out (by kernel_rfl)) ?_
        refine pn_ 24 (some 37) (bt_ 34 33554431) (any_of HT_.out (by kernel_rfl)) ?_
        refine pn_ 25 (some 38) (bt_ 34 67108863) (any_of HT_.out (by kernel_rfl)) ?_
        refine pn_ 26 (some 39) (bt_ 34 134217727) (any_of HT_.out (by kernel_rfl)) ?_
        refine pn_ 27 (some 40) (bt_ 34 268435455) (any_of HT_.out (by kernel_rfl)) ?_
        refine pn_ 28 (some 41) (bt_ 34 536870911) (any_of HT_.out (by kernel_rfl)) ?_
        refine pn_ 29 (some 42) (bt_ 34 1073741823) (any_of HT_.out (by kernel_rfl)) ?_
        refine pn_ 30 (some 43) (bt_ 34 2147483647) (any_of HT_.out (by kernel_rfl)) ?_
        refine pn_ 31 (some 44) (bt_ 34 4294967295) (any_of HT_.out (by kernel_rfl)) ?_
        refine pn_ 32 (some 45) (bt_ 34 8589934591) (any_of HT_.out (by kernel_rfl)) ?_
        refine pu_ 33 (some 46) (bt_ 34 17179869183) (any_of HT_.out (by kernel_rfl)) ?_
        refine done_ (done_of HT_.out (by kernel_rfl)) ?_
        try go_wp2
        go_ret
        exact ⟨by first | rfl | (simp [errW_none, errW_some] <;> rfl) | (simp [*, errW_none, errW_some] <;> rfl), by repeat (first | (with_reducible first | exact HB.out | apply below_alloc | apply pw_below_drewN | apply below_drew1) | exact HB.out)⟩
      ·replace c6 := Bool.eq_false_iff.mpr c6
       subst c6
       have H1 : (some false) = some r := by rw [if_neg (show ¬ (false = true) by decide)] at H; exact H
       clear H
       have H := H1
       clear H1
       obtain rfl := Option.some.inj H
       try go_wp2
       have n0_ := Aside0.mk (below_drew1 HB.out)
       clear HB
       have HB := n0_
       clear n0_
       have jj : 0 ≤ (x3_1 : Int) := of_decide_eq_true (by first | (with_reducible assumption) | assumption)
       have jk : x3_1 < (l0.length : Int) := of_decide_eq_true (by first | (with_reducible assumption) | assumption)
       obtain ⟨ja, jv, jd, je⟩ := at_T68 HR0.out x3_1 jj jk
       have jb := je
       have jc := jd
       cases jv
       replace jd := (HB.out.cell (World.block_lt_of_cell? w _ jd)).trans jd
       replace je := (HB.out.cell (World.block_lt_of_cell? w _ je)).trans je
       replace jj := eq_true jj
       replace jk := eq_true jk
       refine start_ (n := 34) (S := fun w' => w'.cell? (ja.add ((x3_1).toNat * 2)) = some (.int .i64 ((rd_T68 l0 x3_1).f0)) ∧ w'.cell? ⟨(ja.add ((x3_1).toNat * 2)).block, (ja.add ((x3_1).toNat * 2)).off + 1, none⟩ = some (.int .i64 ((rd_T68 l0 x3_1).f1))) (ds := []) (bt_ 34 0) (by kernel_rfl) rfl rfl ⟨((HB.out.cell (World.block_lt_of_cell? w _ jc)).trans jc), ((HB.out.cell (World.block_lt_of_cell? w _ jb)).trans jb)⟩ (fun hHeld => ?_); refine with_tabW spec_l1Pairs.tab6 spec_l1Pairs.bits6 (fun HT_ HW_ => ?_)
       generalize wr.drew = w18 at HB jd je hHeld ⊢
       refine pu_ 0 (some 13) (bt_ 34 1) (any_of HT_.out (by kernel_rfl)) ?_
       refine pu_ 1 (some 14) (bt_ 34 3) (any_of HT_.out (by kernel_rfl)) ?_
       refine pu_ 2 (some 15) (bt_ 34 7) (any_of HT_.out (by kernel_rfl)) ?_
       refine pu_ 3 (some 16) (bt_ 34 15) (any_of HT_.out (by kernel_rfl)) ?_
       refine tk_ 4 (some 17) (bt_ 34 31) (take_ofW HT_.out HW_.out (by kernel_rfl)) hHeld ?_
       refine one_ (i := 5) (N := some 18) (bt_ 34 63) rfl rfl (one_of HT_.out (by kernel_rfl)) (by decide) (fun K hK => ?_)
       refine goes_ Try.func21 (by kernel_rfl) rfl #[.int .i64 ((rd_T68 l0 x3_1).f0), .int .i64 0, .int .i64 31] (by rfl) rfl rfl (by (try simp only [List.map_toArray, List.map_cons, List.map_nil]); first | done | rfl | (simp only [List.length_drop, List.length_take]; rfl)) ?_
       with_reducible refine (spec_l6In.calls ((rd_T68 l0 x3_1).f0) 0 31 false _ A5.out).mono ?_
       rintro e w' ⟨rfl, ⟨nd, rfl⟩⟩
       refine ⟨_, rfl, ?_⟩
       refine hK.out _ _ ⟨((HB.out.cell (World.block_lt_of_cell? w _ jc)).trans jc), ((HB.out.cell (World.block_lt_of_cell? w _ jb)).trans jb)⟩ (fun hHeld => ?_)
       clear hK K
       refine norm_ (a' := ?_) ?_ ?_
       rotate_left
       ·show Act.put _ (some 18) _ = _
        simp only [Act.put, List.setIfInBounds_toArray, List.set_cons_zero, List.set_cons_succ, i64_w, i32_w]
        rfl
       refine pu_ 6 (some 19) (bt_ 34 127) (any_of HT_.out (by kernel_rfl)) ?_
       refine pu_ 7 (some 20) (bt_ 34 255) (any_of HT_.out (by kernel_rfl)) ?_
       refine pn_ 8 (some 21) (bt_ 34 511) (any_of HT_.out (by kernel_rfl)) ?_
       refine pn_ 9 (some 22) (bt_ 34 1023) (any_of HT_.out (by kernel_rfl)) ?_
       refine pn_ 10 (some 23) (bt_ 34 2047) (any_of HT_.out (by kernel_rfl)) ?_
       refine pn_ 11 (some 24) (bt_ 34 4095) (any_of HT_.out (by kernel_rfl)) ?_
       refine pn_ 12 (some 25) (bt_ 34 8191) (any_of HT_.out (by kernel_rfl)) ?_
       refine pn_ 13 (some 26) (bt_ 34 16383) (any_of HT_.out (by kernel_rfl)) ?_
       refine pn_ 14 (some 27) (bt_ 34 32767) (any_of HT_.out (by kernel_rfl)) ?_
       refine pu_ 15 (some 28) (bt_ 34 65535) (any_of HT_.out (by kernel_rfl)) ?_
       refine pu_ 16 (some 29) (bt_ 34 131071) (any_of HT_.out (by kernel_rfl)) ?_
       refine pn_ 17 (some 30) (bt_ 34 262143) (any_of HT_.out (by kernel_rfl)) ?_
       refine pn_ 18 (some 31) (bt_ 34 524287) (any_of HT_.out (by kernel_rfl)) ?_
       refine pn_ 19 (some 32) (bt_ 34 1048575) (any_of HT_.out (by kernel_rfl)) ?_
       refine pn_ 20 (some 33) (bt_ 34 2097151) (any_of HT_.out (by kernel_rfl)) ?_
       refine pn_ 21 (some 34) (bt_ 34 4194303) (any_of HT_.out (by kernel_rfl)) ?_
       refine pn_ 22 (some 35) (bt_ 34 8388607) (any_of HT_.out (by kernel_rfl)) ?_
       refine pn_ 23 (some 36) (bt_ 34 16777215) (any_of HT_.out (by kernel_rfl)) ?_
       refine pn_ 24 (some 37) (bt_ 34 33554431) (any_of HT_.out (by kernel_rfl)) ?_
       refine pn_ 25 (some 38) (bt_ 34 67108863) (any_of HT_.out (by kernel_rfl)) ?_
       refine pn_ 26 (some 39) (bt_ 34 134217727) (any_of HT_.out (by kernel_rfl)) ?_
       refine pn_ 27 (some 40) (bt_ 34 268435455) (any_of HT_.out (by kernel_rfl)) ?_
       refine pn_ 28 (some 41) (bt_ 34 536870911) (any_of HT_.out (by kernel_rfl)) ?_
       refine pn_ 29 (some 42) (bt_ 34 1073741823) (any_of HT_.out (by kernel_rfl)) ?_
       refine pn_ 30 (some 43) (bt_ 34 2147483647) (any_of HT_.out (by kernel_rfl)) ?_
       refine pn_ 31 (some 44) (bt_ 34 4294967295) (any_of HT_.out (by kernel_rfl)) ?_
       refine pn_ 32 (some 45) (bt_ 34 8589934591) (any_of HT_.out (by kernel_rfl)) ?_
       refine pu_ 33 (some 46) (bt_ 34 17179869183) (any_of HT_.out (by kernel_rfl)) ?_
       refine done_ (done_of HT_.out (by kernel_rfl)) ?_
       try go_wp2
       go_ret
       exact ⟨by first | rfl | (simp [errW_none, errW_some] <;> rfl) | (simp [*, errW_none, errW_some] <;> rfl), by repeat (first | (with_reducible first | exact HB.out | apply below_alloc | apply pw_below_drewN | apply below_drew1) | exact HB.out)⟩
     ·rw [if_neg c4] at H
      exact absurd H (by simp)
    ·rw [if_neg c3] at H
     have c3b0 : decide (x3_1 < (l0.length : Int)) = false := decide_eq_false c3
     clear c3
     obtain rfl := Option.some.inj H
     go_wp2
     go_ret
     exact ⟨by first | rfl | (simp [errW_none, errW_some] <;> rfl) | (simp [*, errW_none, errW_some] <;> rfl), by repeat (first | (with_reducible first | exact HB.out | apply below_alloc | apply pw_below_drewN | apply below_drew1) | exact HB.out)⟩

end Go.Proofs.Ytbjdnfgalopfiaa.PE
