import Derived.Test.YtdjiclhjficgfaaPXx0
namespace Go.Proofs.Ytdjiclhjficgfaa.PX
open Go.RowKit Go.Proofs.YtdjiclhjficgfaaW.PrintWords Go.Proofs.YtdjiclhjficgfaaW.PrintLast Go.Proofs.YtdjiclhjficgfaaW.PrintMore
attribute [local go_sem] max2_int min2_int max_two min_two max_three min_three max_four min_four
set_option linter.unusedVariables false
set_option linter.unusedSimpArgs false

def laws_szStatementS.f (l0 : List (S72)) (a1 : Int) : Option (Int) := if (wrap64 (a1 - (l0.length : Int))) < 0 then (some (-1)) else (some (wrap64 (a1 - (l0.length : Int))))
set_option maxHeartbeats 8000000 in
set_option maxRecDepth 100000 in
theorem laws_szStatementS.calls (A0 : Option Addr) (c0 : Nat) (l0 : List (S72)) (a1 : Int) (r : Int) (w : World) (hr0 : Kd.C k72 w A0 l0.length l0) (hc0 : l0.length ≤ c0) (h : laws_szStatementS.f l0 a1 = some r) :
 Calls Try.prog 14 #[.slice A0 l0.length c0, .int .i64 a1] w fun e w' => e = .returned (.int .i64 r) ∧ Drawn0 w w' := by
 have HR0 := Aside0.mk hr0
 have HC0 := Aside0.mk hc0
 clear hr0 hc0
 have H : (if (wrap64 (a1 - (l0.length : Int))) < 0 then (some (-1)) else (some (wrap64 (a1 - (l0.length : Int))))) = some r := h
 clear h
 by_cases c3 : (wrap64 (a1 - (l0.length : Int))) < 0
 ·rw [if_pos c3] at H
  have c3b0 : decide ((wrap64 (a1 - (l0.length : Int))) < 0) = true := decide_eq_true c3
  clear c3
  obtain rfl := Option.some.inj H
  go_enter Try.func14, Try.ntmps14
  go_wp2
  go_ret
  exact ⟨by first | rfl | (simp; done) | (simp [*]; done), by repeat (first | exact Drawn0.refl _ | apply Drawn0.step)⟩
 ·rw [if_neg c3] at H
  have c3b0 : decide ((wrap64 (a1 - (l0.length : Int))) < 0) = false := decide_eq_false c3
  clear c3
  obtain rfl := Option.some.inj H
  go_enter Try.func14, Try.ntmps14
  go_wp2
  go_ret
  exact ⟨by first | rfl | (simp; done) | (simp [*]; done), by repeat (first | exact Drawn0.refl _ | apply Drawn0.step)⟩

def spec_l6In.f (a0 : Int) (a1 : Int) (a2 : Int) : Option (Bool) := if a0 ≥ a1 then (some (decide (a0 ≤ a2))) else (some false)
set_option maxHeartbeats 8000000 in
set_option maxRecDepth 100000 in
theorem spec_l6In.calls (a0 : Int) (a1 : Int) (a2 : Int) (r : Bool) (w : World) (h : spec_l6In.f a0 a1 a2 = some r) :
 Calls Try.prog 44 #[.int .i64 a0, .int .i64 a1, .int .i64 a2] w fun e w' => e = .returned (.bool r) ∧ Drawn0 w w' := by
 have H : (if a0 ≥ a1 then (some (decide (a0 ≤ a2))) else (some false)) = some r := h
 clear h
 by_cases c4 : a0 ≥ a1
 ·rw [if_pos c4] at H
  have c4b0 : decide (a1 ≤ a0) = true := decide_eq_true c4
  clear c4
  obtain rfl := Option.some.inj H
  go_enter Try.func44, Try.ntmps44
  go_wp2
  go_ret
  exact ⟨by first | rfl | (simp; done) | (simp [*]; done), by repeat (first | exact Drawn0.refl _ | apply Drawn0.step)⟩
 ·rw [if_neg c4] at H
  have c4b0 : decide (a1 ≤ a0) = false := decide_eq_false c4
  clear c4
  obtain rfl := Option.some.inj H
  go_enter Try.func44, Try.ntmps44
  go_wp2
  go_ret
  exact ⟨by first | rfl | (simp; done) | (simp [*]; done), by repeat (first | exact Drawn0.refl _ | apply Drawn0.step)⟩

def spec_l1Val.f (a0 : Int) : Option (Bool) := (spec_l6In.f a0 (-9999) 9999).bind fun t460001 => (some t460001)
set_option maxHeartbeats 8000000 in
set_option maxRecDepth 100000 in
theorem spec_l1Val.calls (a0 : Int) (r : Bool) (w : World) (h : spec_l1Val.f a0 = some r) :
 Calls Try.prog 45 #[.int .i64 a0] w fun e w' => e = .returned (.bool r) ∧ Drawn0 w w' := by
 have H : ((spec_l6In.f a0 (-9999) 9999).bind fun t460001 => (some t460001)) = some r := h
 clear h
 replace H := Option.bind_eq_some_iff.mp H
 obtain ⟨t460001, A20, H⟩ := H
 replace H : (some t460001) = some r := H
 have A2 := Aside0.mk A20
 clear A20
 obtain rfl := Option.some.inj H
 go_enter Try.func45, Try.ntmps45
 go_wp2_with (first | ((with_reducible refine gate_callee (f := 44) rfl ?_); refine goesL_ (some 4) rfl rfl Try.func44 (by kernel_rfl) rfl #[.int .i64 a0, .int .i64 (-9999), .int .i64 9999] rfl (by (try simp only [List.map_toArray, List.map_cons, List.map_nil]); first | done | rfl | (simp only [List.length_drop, List.length_take]; rfl)) ?_; (with_reducible refine (spec_l6In.calls a0 (-9999) 9999 t460001 _ A2.out).mono ?_); rintro e w' ⟨rfl, ⟨nd, rfl⟩⟩; refine ⟨_, rfl, ?_⟩))
 go_ret
 exact ⟨by first | rfl | (simp; done) | (simp [*]; done), by repeat (first | exact Drawn0.refl _ | apply Drawn0.step)⟩

mutual
def spec_DealOk.j0 : Nat → List (S46) → Bool → Option (Bool)
 | 0, _, _ => none
 | k + 1, x0, x12 => if x12 = true then (some false) else (spec_DealOk.l0 k x0 0)
def spec_DealOk.l0 : Nat → List (S46) → Int → Option (Bool)
 | 0, _, _ => none
 | k + 1, x0, x3 => if x3 < (x0.length : Int) then (if 0 ≤ x3 then ((spec_l6In.f ((rd_T46 x0 x3).f0) 1 4).bind fun t160003 => (if t160003 = true then ((spec_l6In.f ((rd_T46 x0 x3).f1) 0 31).bind fun t160004 => (if t160004 = true then ((spec_l1Val.f ((rd_T46 x0 x3).f2)).bind fun t160005 => (if t160005 = true then (if ((rd_T46 x0 x3).f0) = 1 then (if ((rd_T46 x0 x3).f2) = 0 then (spec_DealOk.l0 k x0 (wrap64 (x3 + 1))) else (some false)) else (spec_DealOk.l0 k x0 (wrap64 (x3 + 1)))) else (some false))) else (some false))) else (some false))) else (none)) else (some true)
end
def spec_DealOk.f (k : Nat) (l0 : List (S46)) : Option (Bool) := if (l0.length : Int) < 1 then (spec_DealOk.j0 k l0 true) else (spec_DealOk.j0 k l0 (decide ((l0.length : Int) > 6)))
theorem spec_DealOk.mono_l : ∀ k, (∀ y0 y1, LeO (spec_DealOk.j0 k y0 y1) (spec_DealOk.j0 (k + 1) y0 y1)) ∧ (∀ y0 y1, LeO (spec_DealOk.l0 k y0 y1) (spec_DealOk.l0 (k + 1) y0 y1))
 | 0 => ⟨fun _ _ r h => by simp [spec_DealOk.j0] at h, fun _ _ r h => by simp [spec_DealOk.l0] at h⟩
 | k + 1 => by
  obtain ⟨ih0, ih1⟩ := spec_DealOk.mono_l k
  refine ⟨?_, ?_⟩
  ·intro y0 y1
   unfold spec_DealOk.j0
   repeat' first
   | (with_reducible exact ih0 _ _)
   | (with_reducible exact ih1 _ _)
   | (with_reducible exact LeO.refl _)
   | (with_reducible exact LeO.none _)
   | (with_reducible refine LeO.ite ?_ ?_)
   | (with_reducible refine LeO.bind ?_ (fun _ => ?_))
   | exact ih0 _ _
   | exact ih1 _ _
   | exact LeO.none _
   | refine LeO.ite ?_ ?_
   | refine LeO.bind ?_ (fun _ => ?_)
  ·intro y0 y1
   unfold spec_DealOk.l0
   repeat' first
   | (with_reducible exact ih0 _ _)
   | (with_reducible exact ih1 _ _)
   | (with_reducible exact LeO.refl _)
   | (with_reducible exact LeO.none _)
   | (with_reducible refine LeO.ite ?_ ?_)
   | (with_reducible refine LeO.bind ?_ (fun _ => ?_))
   | exact ih0 _ _
   | exact ih1 _ _
   | exact LeO.none _
   | refine LeO.ite ?_ ?_
   | refine LeO.bind ?_ (fun _ => ?_)
theorem spec_DealOk.mono : ∀ a0 k, LeO (spec_DealOk.f k a0) (spec_DealOk.f (k + 1) a0) := by
 intro a0 k
 obtain ⟨ih0, ih1⟩ := spec_DealOk.mono_l k
 unfold spec_DealOk.f
 repeat' first
  | (with_reducible exact ih0 _ _)
  | (with_reducible exact ih1 _ _)
  | (with_reducible exact LeO.refl _)
  | (with_reducible exact LeO.none _)
  | (with_reducible refine LeO.ite ?_ ?_)
  | (with_reducible refine LeO.bind ?_ (fun _ => ?_))
  | exact ih0 _ _
  | exact ih1 _ _
  | exact LeO.none _
  | refine LeO.ite ?_ ?_
  | refine LeO.bind ?_ (fun _ => ?_)
set_option maxHeartbeats 8000000 in
set_option maxRecDepth 100000 in
theorem spec_DealOk.calls (k : Nat) (A0 : Option Addr) (c0 : Nat) (l0 : List (S46)) (r : Bool) (w : World) (hr0 : Kd.C k46 w A0 l0.length l0) (hc0 : l0.length ≤ c0) (h : spec_DealOk.f k l0 = some r) :
 Calls Try.prog 15 #[.slice A0 l0.length c0] w fun e w' => e = .returned (.bool r) ∧ Below w.heap.size w w' := by
 have hu46 := Try.underlying46
 have HR0 := Aside0.mk hr0
 have HC0 := Aside0.mk hc0
 clear hr0 hc0
 have HB := Aside0.mk (Below.refl w.heap.size w)
 have H : (if (l0.length : Int) < 1 then (spec_DealOk.j0 k l0 true) else (spec_DealOk.j0 k l0 (decide ((l0.length : Int) > 6)))) = some r := h
 clear h
 have HC2 := Aside0.mk H
 clear H
 go_enter Try.func15, Try.ntmps15
 go_upto_region 1 with (fail)
 go_cut [12] (fun v12 wc => ∃ (kq : Nat) (x12_1 : Bool), v12 = .bool x12_1 ∧ Aside0 (spec_DealOk.j0 kq l0 x12_1 = some r) ∧ Aside0 (kq ≤ k) ∧ Aside0 (Below w.heap.size w wc))
 case first =>
  have H := HC2.out
  clear HC2
  by_cases c3 : (l0.length : Int) < 1
  ·rw [if_pos c3] at H
   have c3b0 : decide ((l0.length : Int) < 1) = true := decide_eq_true c3
   have c3b1 : decide (l0.length < 1) = true := decide_eq_true (by omega)
   clear c3
   (first | rw [c3b0] | (simp only [i64_w, i32_w]; rw [c3b0]) | skip)
   have H' := Aside0.mk H
   clear H
   go_wp2
   go_meet
   case rel => exact ⟨_, (true), (by first | rfl | (simp; done) | (simp [*]; done)), H', ⟨by first | omega | exact Nat.le_refl _⟩, ⟨by repeat (first | (with_reducible first | exact HB.out | apply below_alloc | apply pw_below_drewN | apply below_drew1) | exact HB.out)⟩⟩
  ·rw [if_neg c3] at H
   have c3b0 : decide ((l0.length : Int) < 1) = false := decide_eq_false c3
   have c3b1 : decide (l0.length < 1) = false := decide_eq_false (by omega)
   clear c3
   (first | rw [c3b0] | (simp only [i64_w, i32_w]; rw [c3b0]) | skip)
   have H' := Aside0.mk H
   clear H
   go_wp2
   go_meet
   case rel => exact ⟨_, (decide ((l0.length : Int) > 6)), (by first | rfl | (simp; done) | (simp [*]; done)), H', ⟨by first | omega | exact Nat.le_refl _⟩, ⟨by repeat (first | (with_reducible first | exact HB.out | apply below_alloc | apply pw_below_drewN | apply below_drew1) | exact HB.out)⟩⟩
 case rest =>
  clear HC2
  try clear c1
  try clear p2
  try clear c3
  try clear c3b0
  try clear c3b1
  obtain ⟨kq, x12_1, rfl, HA, HJ1, HB⟩ := hcut
  cases kq with
  | zero => exact absurd HA.out (by simp [spec_DealOk.j0])
  | succ kj1 =>
   have H := HA.out
   clear HA
   simp only [spec_DealOk.j0] at H
   by_cases c4 : x12_1 = true
   ·subst c4
    have H1 : (some false) = some r := by rw [if_pos rfl] at H; exact H
    clear H
    have H := H1
    clear H1
    obtain rfl := Option.some.inj H
    go_wp2
    go_ret
    exact ⟨by first | rfl | (simp [errW_none, errW_some] <;> rfl) | (simp [*, errW_none, errW_some] <;> rfl), by repeat (first | (with_reducible first | exact HB.out | apply below_alloc | apply pw_below_drewN | apply below_drew1) | exact HB.out)⟩
   ·replace c4 := Bool.eq_false_iff.mpr c4
    subst c4
    have H1 : (spec_DealOk.l0 kj1 l0 0) = some r := by rw [if_neg (show ¬ (false = true) by decide)] at H; exact H
    clear H
    have H := H1
    clear H1
    have H' := Aside0.mk H
    clear H
    go_wp2
    go_loopg [3] kj1 (fun kq v3 w' => ∃ (x3_2 : Int), v3 = .int .i64 x3_2 ∧ Aside0 (spec_DealOk.l0 kq l0 x3_2 = some r) ∧ Aside0 (kq ≤ kj1) ∧ Aside0 (Below w.heap.size w w'))
    case atStart => exact ⟨(0), (by first | rfl | (simp; done) | (simp [*]; done)), H', ⟨Nat.le_refl _⟩, ⟨by repeat (first | (with_reducible first | exact HB.out | apply below_alloc | apply pw_below_drewN | apply below_drew1) | exact HB.out)⟩⟩
    case round =>
     clear H'
     try clear c1
     try clear p2
     try clear c3
     try clear c3b0
     try clear c3b1
     try clear c4
     try clear p2
     obtain ⟨x3_2, rfl, HA, HK2, HB⟩ := hrel
     cases gk with
     | zero => exact absurd HA.out (by simp [spec_DealOk.l0])
     | succ k2 =>
      have H := HA.out
      clear HA
      simp only [spec_DealOk.l0] at H
      by_cases c5 : x3_2 < (l0.length : Int)
      ·rw [if_pos c5] at H
       have c5b0 : decide (x3_2 < (l0.length : Int)) = true := decide_eq_true c5
       clear c5
       by_cases c6 : 0 ≤ x3_2
       ·rw [if_pos c6] at H
        have c6b0 : decide (0 ≤ x3_2) = true := decide_eq_true c6
        clear c6
        replace H := Option.bind_eq_some_iff.mp H
        obtain ⟨t160003, A70, H⟩ := H
        replace H : (if t160003 = true then ((spec_l6In.f ((rd_T46 l0 x3_2).f1) 0 31).bind fun t160004 => (if t160004 = true then ((spec_l1Val.f ((rd_T46 l0 x3_2).f2)).bind fun t160005 => (if t160005 = true then (if ((rd_T46 l0 x3_2).f0) = 1 then (if ((rd_T46 l0 x3_2).f2) = 0 then (spec_DealOk.l0 k2 l0 (wrap64 (x3_2 + 1))) else (some false)) else (spec_DealOk.l0 k2 l0 (wrap64 (x3_2 + 1)))) else (some false))) else (some false))) else (some false)) = some r := H
        have A7 := Aside0.mk A70
        clear A70
        by_cases c8 : t160003 = true
        ·subst c8
         have H1 : ((spec_l6In.f ((rd_T46 l0 x3_2).f1) 0 31).bind fun t160004 => (if t160004 = true then ((spec_l1Val.f ((rd_T46 l0 x3_2).f2)).bind fun t160005 => (if t160005 = true then (if ((rd_T46 l0 x3_2).f0) = 1 then (if ((rd_T46 l0 x3_2).f2) = 0 then (spec_DealOk.l0 k2 l0 (wrap64 (x3_2 + 1))) else (some false)) else (spec_DealOk.l0 k2 l0 (wrap64 (x3_2 + 1)))) else (some false))) else (some false))) = some r := by rw [if_pos rfl] at H; exact H
         clear H
         have H := H1
         clear H1
         replace H := Option.bind_eq_some_iff.mp H
         obtain ⟨t160004, A90, H⟩ := H
         replace H : (if t160004 = true then ((spec_l1Val.f ((rd_T46 l0 x3_2).f2)).bind fun t160005 => (if t160005 = true then (if ((rd_T46 l0 x3_2).f0) = 1 then (if ((rd_T46 l0 x3_2).f2) = 0 then (spec_DealOk.l0 k2 l0 (wrap64 (x3_2 + 1))) else (some false)) else (spec_DealOk.l0 k2 l0 (wrap64 (x3_2 + 1)))) else (some false))) else (some false)) = some r := H
         have A9 := Aside0.mk A90
         clear A90
         by_cases c10 : t160004 = true
         ·subst c10
          have H1 : ((spec_l1Val.f ((rd_T46 l0 x3_2).f2)).bind fun t160005 => (if t160005 = true then (if ((rd_T46 l0 x3_2).f0) = 1 then (if ((rd_T46 l0 x3_2).f2) = 0 then (spec_DealOk.l0 k2 l0 (wrap64 (x3_2 + 1))) else (some false)) else (spec_DealOk.l0 k2 l0 (wrap64 (x3_2 + 1)))) else (some false))) = some r := by rw [if_pos rfl] at H; exact H
          clear H
          have H := H1
          clear H1
          replace H := Option.bind_eq_some_iff.mp H
          obtain ⟨t160005, A110, H⟩ := H
          replace H : (if t160005 = true then (if ((rd_T46 l0 x3_2).f0) = 1 then (if ((rd_T46 l0 x3_2).f2) = 0 then (spec_DealOk.l0 k2 l0 (wrap64 (x3_2 + 1))) else (some false)) else (spec_DealOk.l0 k2 l0 (wrap64 (x3_2 + 1)))) else (some false)) = some r := H
          have A11 := Aside0.mk A110
          clear A110
          by_cases c12 : t160005 = true
          ·subst c12
           have H1 : (if ((rd_T46 l0 x3_2).f0) = 1 then (if ((rd_T46 l0 x3_2).f2) = 0 then (spec_DealOk.l0 k2 l0 (wrap64 (x3_2 + 1))) else (some false)) else (spec_DealOk.l0 k2 l0 (wrap64 (x3_2 + 1)))) = some r := by rw [if_pos rfl] at H; exact H
           clear H
           have H := H1
           clear H1
           by_cases c13 : ((rd_T46 l0 x3_2).f0) = 1
           ·rw [if_pos c13] at H
            have c13b0 : (((rd_T46 l0 x3_2).f0) == 1) = true := beq_iff_eq.mpr c13
            have c13b1 : (((rd_T46 l0 x3_2).f0) != 1) = false := bne_eq_false_iff_eq.mpr c13
            clear c13
            by_cases c14 : ((rd_T46 l0 x3_2).f2) = 0
            ·rw [if_pos c14] at H
             have c14b0 : (((rd_T46 l0 x3_2).f2) == 0) = true := beq_iff_eq.mpr c14
             have c14b1 : (((rd_T46 l0 x3_2).f2) != 0) = false := bne_eq_false_iff_eq.mpr c14
             clear c14
             have H' := Aside0.mk H
             clear H
             have p160001 : 0 ≤ (x3_2 : Int) := of_decide_eq_true (by first | (with_reducible assumption) | assumption)
             have q160001 : x3_2 < (l0.length : Int) := of_decide_eq_true (by first | (with_reducible assumption) | assumption)
             obtain ⟨ad160001, e160001, hx160001_0, hx160001_1, hx160001_2⟩ := at_T46 HR0.out x3_2 p160001 q160001
             cases e160001
             replace hx160001_0 := (HB.out.cell (World.block_lt_of_cell? w _ hx160001_0)).trans hx160001_0
             replace hx160001_1 := (HB.out.cell (World.block_lt_of_cell? w _ hx160001_1)).trans hx160001_1
             replace hx160001_2 := (HB.out.cell (World.block_lt_of_cell? w _ hx160001_2)).trans hx160001_2
             replace p160001 := eq_true p160001
             replace q160001 := eq_true q160001
             go_wp2_with (first | ((with_reducible refine gate_dst (N := 4) rfl ?_); (try (refine gate_guard (by rfl) ?_; dsimp only)); refine box_event ?hg (N := 4) ?hd (cs := #[.int .i64 0, .int .i64 0, .int .i64 0]) (t := 46) ?hr ?_; (case hd => rfl); (case hg => rfl); (case hr => first | (go_simp; done) | (go_simp; rfl)); intro gb160002 hg w15 hbox hb; have n0_ := Aside0.mk (below_step (by repeat (first | (with_reducible first | exact HB.out | apply below_alloc | apply pw_below_drewN | apply below_drew1) | exact HB.out)) hb); have n1_ := Aside0.mk (hbox); have n2_ := Aside0.mk ((by rw [hg]; exact (below_size (by repeat (first | (with_reducible first | exact HB.out | apply below_alloc | apply pw_below_drewN | apply below_drew1) | exact HB.out))) : w.heap.size ≤ gb160002)); have n3_ := Aside0.mk ((by rw [hg]; exact (below_size (by repeat (first | (with_reducible first | exact HB.out | apply below_alloc | apply pw_below_drewN | apply below_drew1) | exact HB.out))) : w.heap.size ≤ gb160002)); clear HB; have HB := n0_; have BK160002 := n1_; have GW160002 := n2_; have GE160002 := n3_; clear n0_ n1_ n2_ n3_; clear hb hbox hg; have hcz16_0 : w15.cell? ⟨gb160002, 0, none⟩ = some (.int .i64 0) := (blk_cell BK160002.out 0).trans rfl; have hcz16_1 : w15.cell? ⟨gb160002, 1, none⟩ = some (.int .i64 0) := (blk_cell BK160002.out 1).trans rfl; have hcz16_2 : w15.cell? ⟨gb160002, 2, none⟩ = some (.int .i64 0) := (blk_cell BK160002.out 2).trans rfl; have hfz16_0 := blk_frozen BK160002.out 0; have hfz16_1 := blk_frozen BK160002.out 1; have hfz16_2 := blk_frozen BK160002.out 2) | ((with_reducible refine gate_callee (f := 44) rfl ?_); refine goesL_ (some 25) rfl rfl Try.func44 (by kernel_rfl) rfl #[.int .i64 ((rd_T46 l0 x3_2).f0), .int .i64 1, .int .i64 4] rfl (by (try simp only [List.map_toArray, List.map_cons, List.map_nil]); first | done | rfl | (simp only [List.length_drop, List.length_take]; rfl)) ?_; (with_reducible refine (spec_l6In.calls ((rd_T46 l0 x3_2).f0) 1 4 true _ A7.out).mono ?_); rintro e w' ⟨rfl, ⟨nd, rfl⟩⟩; refine ⟨_, rfl, ?_⟩) | (go_at_call 44; (with_reducible refine (spec_l6In.calls ((rd_T46 l0 x3_2).f1) 0 31 true _ A9.out).mono ?_); rintro e w' ⟨rfl, ⟨nd, rfl⟩⟩) | (go_at_call 45; (with_reducible refine (spec_l1Val.calls ((rd_T46 l0 x3_2).f2) true _ A11.out).mono ?_); rintro e w' ⟨rfl, ⟨nd, rfl⟩⟩))
             go_roundg k2
             case measure => have := HJ1.out; have := HK2.out; omega
             case rel => exact ⟨(wrap64 (x3_2 + 1)), (by first | rfl | (simp; done) | (simp [*]; done)), H', ⟨by have := HJ1.out; have := HK2.out; omega⟩, ⟨by repeat (first | (with_reducible first | exact HB.out | apply below_alloc | apply pw_below_drewN | apply below_drew1 | refine below_set ?_ GE160002.out) | exact HB.out)⟩⟩
            ·rw [if_neg c14] at H
             have c14b0 : (((rd_T46 l0 x3_2).f2) == 0) = false := beq_eq_false_iff_ne.mpr c14
             have c14b1 : (((rd_T46 l0 x3_2).f2) != 0) = true := bne_iff_ne.mpr c14
             obtain rfl := Option.some.inj H
             have p160001 : 0 ≤ (x3_2 : Int) := of_decide_eq_true (by first | (with_reducible assumption) | assumption)
             have q160001 : x3_2 < (l0.length : Int) := of_decide_eq_true (by first | (with_reducible assumption) | assumption)
             obtain ⟨ad160001, e160001, hx160001_0, hx160001_1, hx160001_2⟩ := at_T46 HR0.out x3_2 p160001 q160001
             cases e160001
             replace hx160001_0 := (HB.out.cell (World.block_lt_of_cell? w _ hx160001_0)).trans hx160001_0
             replace hx160001_1 := (HB.out.cell (World.block_lt_of_cell? w _ hx160001_1)).trans hx160001_1
             replace hx160001_2 := (HB.out.cell (World.block_lt_of_cell? w _ hx160001_2)).trans hx160001_2
             replace p160001 := eq_true p160001
             replace q160001 := eq_true q160001
             go_wp2_with (first | ((with_reducible refine gate_dst (N := 4) rfl ?_); (try (refine gate_guard (by rfl) ?_; dsimp only)); refine box_event ?hg (N := 4) ?hd (cs := #[.int .i64 0, .int .i64 0, .int .i64 0]) (t := 46) ?hr ?_; (case hd => rfl); (case hg => rfl); (case hr => first | (go_simp; done) | (go_simp; rfl)); intro gb160002 hg w17 hbox hb; have n0_ := Aside0.mk (below_step (by repeat (first | (with_reducible first | exact HB.out | apply below_alloc | apply pw_below_drewN | apply below_drew1) | exact HB.out)) hb); have n1_ := Aside0.mk (hbox); have n2_ := Aside0.mk ((by rw [hg]; exact (below_size (by repeat (first | (with_reducible first | exact HB.out | apply below_alloc | apply pw_below_drewN | apply below_drew1) | exact HB.out))) : w.heap.size ≤ gb160002)); have n3_ := Aside0.mk ((by rw [hg]; exact (below_size (by repeat (first | (with_reducible first | exact HB.out | apply below_alloc | apply pw_below_drewN | apply below_drew1) | exact HB.out))) : w.heap.size ≤ gb160002)); clear HB; have HB := n0_; have BK160002 := n1_; have GW160002 := n2_; have GE160002 := n3_; clear n0_ n1_ n2_ n3_; clear hb hbox hg; have hcz18_0 : w17.cell? ⟨gb160002, 0, none⟩ = some (.int .i64 0) := (blk_cell BK160002.out 0).trans rfl; have hcz18_1 : w17.cell? ⟨gb160002, 1, none⟩ = some (.int .i64 0) := (blk_cell BK160002.out 1).trans rfl; have hcz18_2 : w17.cell? ⟨gb160002, 2, none⟩ = some (.int .i64 0) := (blk_cell BK160002.out 2).trans rfl; have hfz18_0 := blk_frozen BK160002.out 0; have hfz18_1 := blk_frozen BK160002.out 1; have hfz18_2 := blk_frozen BK160002.out 2) | ((with_reducible refine gate_callee (f := 44) rfl ?_); refine goesL_ (some 25) rfl rfl Try.func44 (by kernel_rfl) rfl #[.int .i64 ((rd_T46 l0 x3_2).f0), .int .i64 1, .int .i64 4] rfl (by (try simp only [List.map_toArray, List.map_cons, List.map_nil]); first | done | rfl | (simp only [List.length_drop, List.length_take]; rfl)) ?_; (with_reducible refine (spec_l6In.calls ((rd_T46 l0 x3_2).f0) 1 4 true _ A7.out).mono ?_); rintro e w' ⟨rfl, ⟨nd, rfl⟩⟩; refine ⟨_, rfl, ?_⟩) | (go_at_call 44; (with_reducible refine (spec_l6In.calls ((rd_T46 l0 x3_2).f1) 0 31 true _ A9.out).mono ?_); rintro e w' ⟨rfl, ⟨nd, rfl⟩⟩) | (go_at_call 45; (with_reducible refine (spec_l1Val.calls ((rd_T46 l0 x3_2).f2) true _ A11.out).mono ?_); rintro e w' ⟨rfl, ⟨nd, rfl⟩⟩))
             go_ret
             exact ⟨by first | rfl | (simp [errW_none, errW_some] <;> rfl) | (simp [*, errW_none, errW_some] <;> rfl), by repeat (first | (with_reducible first | exact HB.out | apply below_alloc | apply pw_below_drewN | apply below_drew1 | refine below_set ?_ GE160002.out) | exact HB.out)⟩
           ·rw [if_neg c13] at H
            have c13b0 : (((rd_T46 l0 x3_2).f0) == 1) = false := beq_eq_false_iff_ne.mpr c13
            have c13b1 : (((rd_T46 l0 x3_2).f0) != 1) = true := bne_iff_ne.mpr c13
            have H' := Aside0.mk H
            clear H
            have p160001 : 0 ≤ (x3_2 : Int) := of_decide_eq_true (by first | (with_reducible assumption) | assumption)
            have q160001 : x3_2 < (l0.length : Int) := of_decide_eq_true (by first | (with_reducible assumption) | assumption)
            obtain ⟨ad160001, e160001, hx160001_0, hx160001_1, hx160001_2⟩ := at_T46 HR0.out x3_2 p160001 q160001
            cases e160001
            replace hx160001_0 := (HB.out.cell (World.block_lt_of_cell? w _ hx160001_0)).trans hx160001_0
            replace hx160001_1 := (HB.out.cell (World.block_lt_of_cell? w _ hx160001_1)).trans hx160001_1
            replace hx160001_2 := (HB.out.cell (World.block_lt_of_cell? w _ hx160001_2)).trans hx160001_2
            replace p160001 := eq_true p160001
            replace q160001 := eq_true q160001
            go_wp2_with (first | ((with_reducible refine gate_dst (N := 4) rfl ?_); (try (refine gate_guard (by rfl) ?_; dsimp only)); refine box_event ?hg (N := 4) ?hd (cs := #[.int .i64 0, .int .i64 0, .int .i64 0]) (t := 46) ?hr ?_; (case hd => rfl); (case hg => rfl); (case hr => first | (go_simp; done) | (go_simp; rfl)); intro gb160002 hg w19 hbox hb; have n0_ := Aside0.mk (below_step (by repeat (first | (with_reducible first | exact HB.out | apply below_alloc | apply pw_below_drewN | apply below_drew1) | exact HB.out)) hb); have n1_ := Aside0.mk (hbox); have n2_ := Aside0.mk ((by rw [hg]; exact (below_size (by repeat (first | (with_reducible first | exact HB.out | apply below_alloc | apply pw_below_drewN | apply below_drew1) | exact HB.out))) : w.heap.size ≤ gb160002)); have n3_ := Aside0.mk ((by rw [hg]; exact (below_size (by repeat (first | (with_reducible first | exact HB.out | apply below_alloc | apply pw_below_drewN | apply below_drew1) | exact HB.out))) : w.heap.size ≤ gb160002)); clear HB; have HB := n0_; have BK160002 := n1_; have GW160002 := n2_; have GE160002 := n3_; clear n0_ n1_ n2_ n3_; clear hb hbox hg; have hcz20_0 : w19.cell? ⟨gb160002, 0, none⟩ = some (.int .i64 0) := (blk_cell BK160002.out 0).trans rfl; have hcz20_1 : w19.cell? ⟨gb160002, 1, none⟩ = some (.int .i64 0) := (blk_cell BK160002.out 1).trans rfl; have hcz20_2 : w19.cell? ⟨gb160002, 2, none⟩ = some (.int .i64 0) := (blk_cell BK160002.out 2).trans rfl; have hfz20_0 := blk_frozen BK160002.out 0; have hfz20_1 := blk_frozen BK160002.out 1; have hfz20_2 := blk_frozen BK160002.out 2) | ((with_reducible refine gate_callee (f := 44) rfl ?_); refine goesL_ (some 25) rfl rfl Try.func44 (by kernel_rfl) rfl #[.int .i64 ((rd_T46 l0 x3_2).f0), .int .i64 1, .int .i64 4] rfl (by (try simp only [List.map_toArray, List.map_cons, List.map_nil]); first | done | rfl | (simp only [List.length_drop, List.length_take]; rfl)) ?_; (with_reducible refine (spec_l6In.calls ((rd_T46 l0 x3_2).f0) 1 4 true _ A7.out).mono ?_); rintro e w' ⟨rfl, ⟨nd, rfl⟩⟩; refine ⟨_, rfl, ?_⟩) | (go_at_call 44; (with_reducible refine (spec_l6In.calls ((rd_T46 l0 x3_2).f1) 0 31 true _ A9.out).mono ?_); rintro e w' ⟨rfl, ⟨nd, rfl⟩⟩) | (go_at_call 45; (with_reducible refine (spec_l1Val.calls ((rd_T46 l0 x3_2).f2) true _ A11.out).mono ?_); rintro e w' ⟨rfl, ⟨nd, rfl⟩⟩))
            go_roundg k2
            case measure => have := HJ1.out; have := HK2.out; omega
            case rel => exact ⟨(wrap64 (x3_2 + 1)), (by first | rfl | (simp; done) | (simp [*]; done)), H', ⟨by have := HJ1.out; have := HK2.out; omega⟩, ⟨by repeat (first | (with_reducible first | exact HB.out | apply below_alloc | apply pw_below_drewN | apply below_drew1 | refine below_set ?_ GE160002.out) | exact HB.out)⟩⟩
          ·replace c12 := Bool.eq_false_iff.mpr c12
           subst c12
           have H1 : (some false) = some r := by rw [if_neg (show ¬ (false = true) by decide)] at H; exact H
           clear H
           have H := H1
           clear H1
           obtain rfl := Option.some.inj H
           have p160001 : 0 ≤ (x3_2 : Int) := of_decide_eq_true (by first | (with_reducible assumption) | assumption)
           have q160001 : x3_2 < (l0.length : Int) := of_decide_eq_true (by first | (with_reducible assumption) | assumption)
           obtain ⟨ad160001, e160001, hx160001_0, hx160001_1, hx160001_2⟩ := at_T46 HR0.out x3_2 p160001 q160001
           cases e160001
           replace hx160001_0 := (HB.out.cell (World.block_lt_of_cell? w _ hx160001_0)).trans hx160001_0
           replace hx160001_1 := (HB.out.cell (World.block_lt_of_cell? w _ hx160001_1)).trans hx160001_1
           replace hx160001_2 := (HB.out.cell (World.block_lt_of_cell? w _ hx160001_2)).trans hx160001_2
           replace p160001 := eq_true p160001
           replace q160001 := eq_true q160001
           go_wp2_with (first | ((with_reducible refine gate_dst (N := 4) rfl ?_); (try (refine gate_guard (by rfl) ?_; dsimp only)); refine box_event ?hg (N := 4) ?hd (cs := #[.int .i64 0, .int .i64 0, .int .i64 0]) (t := 46) ?hr ?_; (case hd => rfl); (case hg => rfl); (case hr => first | (go_simp; done) | (go_simp; rfl)); intro gb160002 hg w21 hbox hb; have n0_ := Aside0.mk (below_step (by repeat (first | (with_reducible first | exact HB.out | apply below_alloc | apply pw_below_drewN | apply below_drew1) | exact HB.out)) hb); have n1_ := Aside0.mk (hbox); have n2_ := Aside0.mk ((by rw [hg]; exact (below_size (by repeat (first | (with_reducible first | exact HB.out | apply below_alloc | apply pw_below_drewN | apply below_drew1) | exact HB.out))) : w.heap.size ≤ gb160002)); have n3_ := Aside0.mk ((by rw [hg]; exact (below_size (by repeat (first | (with_reducible first | exact HB.out | apply below_alloc | apply pw_below_drewN | apply below_drew1) | exact HB.out))) : w.heap.size ≤ gb160002)); clear HB; have HB := n0_; have BK160002 := n1_; have GW160002 := n2_; have GE160002 := n3_; clear n0_ n1_ n2_ n3_; clear hb hbox hg; have hcz22_0 : w21.cell? ⟨gb160002, 0, none⟩ = some (.int .i64 0) := (blk_cell BK160002.out 0).trans rfl; have hcz22_1 : w21.cell? ⟨gb160002, 1, none⟩ = some (.int .i64 0) := (blk_cell BK160002.out 1).trans rfl; have hcz22_2 : w21.cell? ⟨gb160002, 2, none⟩ = some (.int .i64 0) := (blk_cell BK160002.out 2).trans rfl; have hfz22_0 := blk_frozen BK160002.out 0; have hfz22_1 := blk_frozen BK160002.out 1; have hfz22_2 := blk_frozen BK160002.out 2) | ((with_reducible refine gate_callee (f := 44) rfl ?_); refine goesL_ (some 25) rfl rfl Try.func44 (by kernel_rfl) rfl #[.int .i64 ((rd_T46 l0 x3_2).f0), .int .i64 1, .int .i64 4] rfl (by (try simp only [List.map_toArray, List.map_cons, List.map_nil]); first | done | rfl | (simp only [List.length_drop, List.length_take]; rfl)) ?_; (with_reducible refine (spec_l6In.calls ((rd_T46 l0 x3_2).f0) 1 4 true _ A7.out).mono ?_); rintro e w' ⟨rfl, ⟨nd, rfl⟩⟩; refine ⟨_, rfl, ?_⟩) | (go_at_call 44; (with_reducible refine (spec_l6In.calls ((rd_T46 l0 x3_2).f1) 0 31 true _ A9.out).mono ?_); rintro e w' ⟨rfl, ⟨nd, rfl⟩⟩) | (go_at_call 45; (with_reducible refine (spec_l1Val.calls ((rd_T46 l0 x3_2).f2) false _ A11.out).mono ?_); rintro e w' ⟨rfl, ⟨nd, rfl⟩⟩))
           go_ret
           exact ⟨by first | rfl | (simp [errW_none, errW_some] <;> rfl) | (simp [*, errW_none, errW_some] <;> rfl), by repeat (first | (with_reducible first | exact HB.out | apply below_alloc | apply pw_below_drewN | apply below_drew1 | refine below_set ?_ GE160002.out) | exact HB.out)⟩
         ·replace c10 := Bool.eq_false_iff.mpr c10
          subst c10
          have H1 : (some false) = some r := by rw [if_neg (show ¬ (false = true) by decide)] at H; exact H
          clear H
          have H := H1
          clear H1
          obtain rfl := Option.some.inj H
          have p160001 : 0 ≤ (x3_2 : Int) := of_decide_eq_true (by first | (with_reducible assumption) | assumption)
          have q160001 : x3_2 < (l0.length : Int) := of_decide_eq_true (by first | (with_reducible assumption) | assumption)
          obtain ⟨ad160001, e160001, hx160001_0, hx160001_1, hx160001_2⟩ := at_T46 HR0.out x3_2 p160001 q160001
          cases e160001
          replace hx160001_0 := (HB.out.cell (World.block_lt_of_cell? w _ hx160001_0)).trans hx160001_0
          replace hx160001_1 := (HB.out.cell (World.block_lt_of_cell? w _ hx160001_1)).trans hx160001_1
          replace hx160001_2 := (HB.out.cell (World.block_lt_of_cell? w _ hx160001_2)).trans hx160001_2
          replace p160001 := eq_true p160001
          replace q160001 := eq_true q160001
          go_wp2_with (first | ((with_reducible refine gate_dst (N := 4) rfl ?_); (try (refine gate_guard (by rfl) ?_; dsimp only)); refine box_event ?hg (N := 4) ?hd (cs := #[.int .i64 0, .int .i64 0, .int .i64 0]) (t := 46) ?hr ?_; (case hd => rfl); (case hg => rfl); (case hr => first | (go_simp; done) | (go_simp; rfl)); intro gb160002 hg w23 hbox hb; have n0_ := Aside0.mk (below_step (by repeat (first | (with_reducible first | exact HB.out | apply below_alloc | apply pw_below_drewN | apply below_drew1) | exact HB.out)) hb); have n1_ := Aside0.mk (hbox); have n2_ := Aside0.mk ((by rw [hg]; exact (below_size (by repeat (first | (with_reducible first | exact HB.out | apply below_alloc | apply pw_below_drewN | apply below_drew1) | exact HB.out))) : w.heap.size ≤ gb160002)); have n3_ := Aside0.mk ((by rw [hg]; exact (below_size (by repeat (first | (with_reducible first | exact HB.out | apply below_alloc | apply pw_below_drewN | apply below_drew1) | exact HB.out))) : w.heap.size ≤ gb160002)); clear HB; have HB := n0_; have BK160002 := n1_; have GW160002 := n2_; have GE160002 := n3_; clear n0_ n1_ n2_ n3_; clear hb hbox hg; have hcz24_0 : w23.cell? ⟨gb160002, 0, none⟩ = some (.int .i64 0) := (blk_cell BK160002.out 0).trans rfl; have hcz24_1 : w23.cell? ⟨gb160002, 1, none⟩ = some (.int .i64 0) := (blk_cell BK160002.out 1).trans rfl; have hcz24_2 : w23.cell? ⟨gb160002, 2, none⟩ = some (.int .i64 0) := (blk_cell BK160002.out 2).trans rfl; have hfz24_0 := blk_frozen BK160002.out 0; have hfz24_1 := blk_frozen BK160002.out 1; have hfz24_2 := blk_frozen BK160002.out 2) | ((with_reducible refine gate_callee (f := 44) rfl ?_); refine goesL_ (some 25) rfl rfl Try.func44 (by kernel_rfl) rfl #[.int .i64 ((rd_T46 l0 x3_2).f0), .int .i64 1, .int .i64 4] rfl (by (try simp only [List.map_toArray, List.map_cons, List.map_nil]); first | done | rfl | (simp only [List.length_drop, List.length_take]; rfl)) ?_; (with_reducible refine (spec_l6In.calls ((rd_T46 l0 x3_2).f0) 1 4 true _ A7.out).mono ?_); rintro e w' ⟨rfl, ⟨nd, rfl⟩⟩; refine ⟨_, rfl, ?_⟩) | (go_at_call 44; (with_reducible refine (spec_l6In.calls ((rd_T46 l0 x3_2).f1) 0 31 false _ A9.out).mono ?_); rintro e w' ⟨rfl, ⟨nd, rfl⟩⟩))
          go_ret
          exact ⟨by first | rfl | (simp [errW_none, errW_some] <;> rfl) | (simp [*, errW_none, errW_some] <;> rfl), by repeat (first | (with_reducible first | exact HB.out | apply below_alloc | apply pw_below_drewN | apply below_drew1 | refine below_set ?_ GE160002.out) | exact HB.out)⟩
        ·replace c8 := Bool.eq_false_iff.mpr c8
         subst c8
         have H1 : (some false) = some r := by rw [if_neg (show ¬ (false = true) by decide)] at H; exact H
         clear H
         have H := H1
         clear H1
         obtain rfl := Option.some.inj H
         have p160001 : 0 ≤ (x3_2 : Int) := of_decide_eq_true (by first | (with_reducible assumption) | assumption)
         have q160001 : x3_2 < (l0.length : Int) := of_decide_eq_true (by first | (with_reducible assumption) | assumption)
         obtain ⟨ad160001, e160001, hx160001_0, hx160001_1, hx160001_2⟩ := at_T46 HR0.out x3_2 p160001 q160001
         cases e160001
         replace hx160001_0 := (HB.out.cell (World.block_lt_of_cell? w _ hx160001_0)).trans hx160001_0
         replace hx160001_1 := (HB.out.cell (World.block_lt_of_cell? w _ hx160001_1)).trans hx160001_1
         replace hx160001_2 := (HB.out.cell (World.block_lt_of_cell? w _ hx160001_2)).trans hx160001_2
         replace p160001 := eq_true p160001
         replace q160001 := eq_true q160001
         go_wp2_with (first | ((with_reducible refine gate_dst (N := 4) rfl ?_); (try (refine gate_guard (by rfl) ?_; dsimp only)); refine box_event ?hg (N := 4) ?hd (cs := #[.int .i64 0, .int .i64 0, .int .i64 0]) (t := 46) ?hr ?_; (case hd => rfl); (case hg => rfl); (case hr => first | (go_simp; done) | (go_simp; rfl)); intro gb160002 hg w25 hbox hb; have n0_ := Aside0.mk (below_step (by repeat (first | (with_reducible first | exact HB.out | apply below_alloc | apply pw_below_drewN | apply below_drew1) | exact HB.out)) hb); have n1_ := Aside0.mk (hbox); have n2_ := Aside0.mk ((by rw [hg]; exact (below_size (by repeat (first | (with_reducible first | exact HB.out | apply below_alloc | apply pw_below_drewN | apply below_drew1) | exact HB.out))) : w.heap.size ≤ gb160002)); have n3_ := Aside0.mk ((by rw [hg]; exact (below_size (by repeat (first | (with_reducible first | exact HB.out | apply below_alloc | apply pw_below_drewN | apply below_drew1) | exact HB.out))) : w.heap.size ≤ gb160002)); clear HB; have HB := n0_; have BK160002 := n1_; have GW160002 := n2_; have GE160002 := n3_; clear n0_ n1_ n2_ n3_; clear hb hbox hg; have hcz26_0 : w25.cell? ⟨gb160002, 0, none⟩ = some (.int .i64 0) := (blk_cell BK160002.out 0).trans rfl; have hcz26_1 : w25.cell? ⟨gb160002, 1, none⟩ = some (.int .i64 0) := (blk_cell BK160002.out 1).trans rfl; have hcz26_2 : w25.cell? ⟨gb160002, 2, none⟩ = some (.int .i64 0) := (blk_cell BK160002.out 2).trans rfl; have hfz26_0 := blk_frozen BK160002.out 0; have hfz26_1 := blk_frozen BK160002.out 1; have hfz26_2 := blk_frozen BK160002.out 2) | ((with_reducible refine gate_callee (f := 44) rfl ?_); refine goesL_ (some 25) rfl rfl Try.func44 (by kernel_rfl) rfl #[.int .i64 ((rd_T46 l0 x3_2).f0), .int .i64 1, .int .i64 4] rfl (by (try simp only [List.map_toArray, List.map_cons, List.map_nil]); first | done | rfl | (simp only [List.length_drop, List.length_take]; rfl)) ?_; (with_reducible refine (spec_l6In.calls ((rd_T46 l0 x3_2).f0) 1 4 false _ A7.out).mono ?_); rintro e w' ⟨rfl, ⟨nd, rfl⟩⟩; refine ⟨_, rfl, ?_⟩))
         go_ret
         exact ⟨by first | rfl | (simp [errW_none, errW_some] <;> rfl) | (simp [*, errW_none, errW_some] <;> rfl), by repeat (first | (with_reducible first | exact HB.out | apply below_alloc | apply pw_below_drewN | apply below_drew1 | refine below_set ?_ GE160002.out) | exact HB.out)⟩
       ·rw [if_neg c6] at H
        exact absurd H (by simp)
      ·rw [if_neg c5] at H
       have c5b0 : decide (x3_2 < (l0.length : Int)) = false := decide_eq_false c5
       clear c5
       obtain rfl := Option.some.inj H
       go_wp2
       go_ret
       exact ⟨by first | rfl | (simp [errW_none, errW_some] <;> rfl) | (simp [*, errW_none, errW_some] <;> rfl), by repeat (first | (with_reducible first | exact HB.out | apply below_alloc | apply pw_below_drewN | apply below_drew1) | exact HB.out)⟩

def laws_toStatement.f (a0_0 : Int) (a0_1 : Int) (a0_2 : Int) : Option (Int × Int × Int) := some (a0_0, a0_1, a0_2)
set_option maxHeartbeats 8000000 in
set_option maxRecDepth 100000 in
theorem laws_toStatement.calls (a0_0 : Int) (a0_1 : Int) (a0_2 : Int) (r1 : Int) (r2 : Int) (r3 : Int) (w : World) (h : laws_toStatement.f a0_0 a0_1 a0_2 = some (r1, r2, r3)) :
 Calls Try.prog 46 #[.agg #[.int .i64 a0_0, .int .i64 a0_1, .int .i64 a0_2]] w fun e w' => e = .returned (.agg #[.int .i64 r1, .int .i64 r2, .int .i64 r3]) ∧ Below w.heap.size w w' := by
 have hu72 := Try.underlying72
 have hu46 := Try.underlying46
 have HB := Aside0.mk (Below.refl w.heap.size w)
 have H : (some (a0_0, a0_1, a0_2)) = some (r1, r2, r3) := h
 clear h
 simp only [Option.some.injEq, Prod.mk.injEq] at H
 obtain ⟨rfl, rfl, rfl⟩ := H
 go_enter Try.func46, Try.ntmps46
 go_wp2_with (first | ((with_reducible refine gate_dst (N := 1) rfl ?_); refine box_event ?hg (N := 1) ?hd (cs := #[.int .i64 a0_0, .int .i64 a0_1, .int .i64 a0_2]) (t := 72) ?hr ?_; (case hd => rfl); (case hg => rfl); (case hr => first | (go_simp; done) | (go_simp; rfl)); intro gb470001 hg w2 hbox hb; have n0_ := Aside0.mk (below_step (by repeat (first | (with_reducible first | exact HB.out | apply below_alloc | apply pw_below_drewN | apply below_drew1) | exact HB.out)) hb); have n1_ := Aside0.mk (hbox); have n2_ := Aside0.mk ((by rw [hg]; exact (below_size (by repeat (first | (with_reducible first | exact HB.out | apply below_alloc | apply pw_below_drewN | apply below_drew1) | exact HB.out))) : w.heap.size ≤ gb470001)); have n3_ := Aside0.mk ((by rw [hg]; exact (below_size (by repeat (first | (with_reducible first | exact HB.out | apply below_alloc | apply pw_below_drewN | apply below_drew1) | exact HB.out))) : w.heap.size ≤ gb470001)); clear HB; have HB := n0_; have BK470001 := n1_; have GW470001 := n2_; have GE470001 := n3_; clear n0_ n1_ n2_ n3_; clear hb hbox hg) | ((with_reducible refine gate_dst (N := 2) rfl ?_); refine box_event ?hg (N := 2) ?hd (cs := #[.int .i64 0, .int .i64 0, .int .i64 0]) (t := 46) ?hr ?_; (case hd => rfl); (case hg => rfl); (case hr => first | (go_simp; done) | (go_simp; rfl)); intro gb470002 hg w3 hbox hb; have n0_ := Aside0.mk (blk_below (g := gb470001) (o := .cells #[.int .i64 a0_0, .int .i64 a0_1, .int .i64 a0_2] 72 (0, 0)) (by (with_reducible repeat (first | refine blk_drewN ?_ _ | refine blk_drew ?_ | refine blk_alloc ?_ _)); exact BK470001.out) hb); have n1_ := Aside0.mk (below_step (by repeat (first | (with_reducible first | exact HB.out | apply below_alloc | apply pw_below_drewN | apply below_drew1 | refine below_set ?_ GE470001.out) | exact HB.out)) hb); have n2_ := Aside0.mk (hbox); have n3_ := Aside0.mk ((by rw [hg]; exact (below_size (by repeat (first | (with_reducible first | exact HB.out | apply below_alloc | apply pw_below_drewN | apply below_drew1 | refine below_set ?_ GE470001.out) | exact HB.out))) : w.heap.size ≤ gb470002)); have n4_ := Aside0.mk ((by rw [hg]; exact (below_size (by repeat (first | (with_reducible first | exact HB.out | apply below_alloc | apply pw_below_drewN | apply below_drew1 | refine below_set ?_ GE470001.out) | exact HB.out))) : w.heap.size ≤ gb470002)); have n5_ := Aside0.mk ((by rw [hg]; exact Nat.ne_of_lt (blk_lt (g := gb470001) (o := .cells #[.int .i64 a0_0, .int .i64 a0_1, .int .i64 a0_2] 72 (0, 0)) (by (with_reducible repeat (first | refine blk_drewN ?_ _ | refine blk_drew ?_ | refine blk_alloc ?_ _)); exact BK470001.out)) : gb470001 ≠ gb470002)); have n6_ := Aside0.mk ((by rw [hg]; exact Nat.ne_of_gt (blk_lt (g := gb470001) (o := .cells #[.int .i64 a0_0, .int .i64 a0_1, .int .i64 a0_2] 72 (0, 0)) (by (with_reducible repeat (first | refine blk_drewN ?_ _ | refine blk_drew ?_ | refine blk_alloc ?_ _)); exact BK470001.out)) : gb470002 ≠ gb470001)); clear BK470001; clear HB; have BK470001 := n0_; have HB := n1_; have BK470002 := n2_; have GW470002 := n3_; have GE470002 := n4_; have NB470001_470002 := n5_; have NB470002_470001 := n6_; clear n0_ n1_ n2_ n3_ n4_ n5_ n6_; clear hb hbox hg) | ((with_reducible refine gate_dst (N := 3) rfl ?_); refine box_event ?hg (N := 3) ?hd (cs := #[.int .i64 0, .int .i64 0, .int .i64 0]) (t := 46) ?hr ?_; (case hd => rfl); (case hg => rfl); (case hr => first | (go_simp; done) | (go_simp; rfl)); intro gb470003 hg w4 hbox hb; have n0_ := Aside0.mk (blk_below (g := gb470001) (o := .cells #[.int .i64 a0_0, .int .i64 a0_1, .int .i64 a0_2] 72 (0, 0)) (by (with_reducible repeat (first | refine blk_drewN ?_ _ | refine blk_drew ?_ | refine blk_alloc ?_ _)); exact BK470001.out) hb); have n1_ := Aside0.mk (blk_below (g := gb470002) (o := .cells #[.int .i64 0, .int .i64 0, .int .i64 0] 46 (0, 0)) (by (with_reducible repeat (first | refine blk_drewN ?_ _ | refine blk_drew ?_ | refine blk_alloc ?_ _)); exact BK470002.out) hb); have n2_ := Aside0.mk (below_step (by repeat (first | (with_reducible first | exact HB.out | apply below_alloc | apply pw_below_drewN | apply below_drew1 | refine below_set ?_ GE470001.out | refine below_set ?_ GE470002.out) | exact HB.out)) hb); have n3_ := Aside0.mk (hbox); have n4_ := Aside0.mk ((by rw [hg]; exact (below_size (by repeat (first | (with_reducible first | exact HB.out | apply below_alloc | apply pw_below_drewN | apply below_drew1 | refine below_set ?_ GE470001.out | refine below_set ?_ GE470002.out) | exact HB.out))) : w.heap.size ≤ gb470003)); have n5_ := Aside0.mk ((by rw [hg]; exact (below_size (by repeat (first | (with_reducible first | exact HB.out | apply below_alloc | apply pw_below_drewN | apply below_drew1 | refine below_set ?_ GE470001.out | refine below_set ?_ GE470002.out) | exact HB.out))) : w.heap.size ≤ gb470003)); have n6_ := Aside0.mk ((by rw [hg]; exact Nat.ne_of_lt (blk_lt (g := gb470001) (o := .cells #[.int .i64 a0_0, .int .i64 a0_1, .int .i64 a0_2] 72 (0, 0)) (by (with_reducible repeat (first | refine blk_drewN ?_ _ | refine blk_drew ?_ | refine blk_alloc ?_ _)); exact BK470001.out)) : gb470001 ≠ gb470003)); have n7_ := Aside0.mk ((by rw [hg]; exact Nat.ne_of_gt (blk_lt (g := gb470001) (o := .cells #[.int .i64 a0_0, .int .i64 a0_1, .int .i64 a0_2] 72 (0, 0)) (by (with_reducible repeat (first | refine blk_drewN ?_ _ | refine blk_drew ?_ | refine blk_alloc ?_ _)); exact BK470001.out)) : gb470003 ≠ gb470001)); have n8_ := Aside0.mk ((by rw [hg]; exact Nat.ne_of_lt (blk_lt (g := gb470002) (o := .cells #[.int .i64 0, .int .i64 0, .int .i64 0] 46 (0, 0)) (by (with_reducible repeat (first | refine blk_drewN ?_ _ | refine blk_drew ?_ | refine blk_alloc ?_ _)); exact BK470002.out)) : gb470002 ≠ gb470003)); have n9_ := Aside0.mk ((by rw [hg]; exact Nat.ne_of_gt (blk_lt (g := gb470002) (o := .cells #[.int .i64 0, .int .i64 0, .int .i64 0] 46 (0, 0)) (by (with_reducible repeat (first | refine blk_drewN ?_ _ | refine blk_drew ?_ | refine blk_alloc ?_ _)); exact BK470002.out)) : gb470003 ≠ gb470002)); clear BK470001; clear BK470002; clear HB; have BK470001 := n0_; have BK470002 := n1_; have HB := n2_; have BK470003 := n3_; have GW470003 := n4_; have GE470003 := n5_; have NB470001_470003 := n6_; have NB470003_470001 := n7_; have NB470002_470003 := n8_; have NB470003_470002 := n9_; clear n0_ n1_ n2_ n3_ n4_ n5_ n6_ n7_ n8_ n9_; clear hb hbox hg; have hnb5 := NB470001_470002.out; have hnc5 := NB470002_470001.out; have hnb6 := NB470001_470003.out; have hnc6 := NB470003_470001.out; have hcz7_0 : w4.cell? ⟨gb470001, 0, none⟩ = some (.int .i64 a0_0) := (blk_cell BK470001.out 0).trans rfl; have hcz7_1 : w4.cell? ⟨gb470001, 1, none⟩ = some (.int .i64 a0_1) := (blk_cell BK470001.out 1).trans rfl; have hcz7_2 : w4.cell? ⟨gb470001, 2, none⟩ = some (.int .i64 a0_2) := (blk_cell BK470001.out 2).trans rfl; have hfz7_0 := blk_frozen BK470001.out 0; have hfz7_1 := blk_frozen BK470001.out 1; have hfz7_2 := blk_frozen BK470001.out 2; have hnb8 := NB470003_470002.out; have hnc8 := NB470002_470003.out; have hcz9_0 : w4.cell? ⟨gb470003, 0, none⟩ = some (.int .i64 0) := (blk_cell BK470003.out 0).trans rfl; have hcz9_1 : w4.cell? ⟨gb470003, 1, none⟩ = some (.int .i64 0) := (blk_cell BK470003.out 1).trans rfl; have hcz9_2 : w4.cell? ⟨gb470003, 2, none⟩ = some (.int .i64 0) := (blk_cell BK470003.out 2).trans rfl; have hfz9_0 := blk_frozen BK470003.out 0; have hfz9_1 := blk_frozen BK470003.out 1; have hfz9_2 := blk_frozen BK470003.out 2; have hcz10_0 : w4.cell? ⟨gb470002, 0, none⟩ = some (.int .i64 0) := (blk_cell BK470002.out 0).trans rfl; have hcz10_1 : w4.cell? ⟨gb470002, 1, none⟩ = some (.int .i64 0) := (blk_cell BK470002.out 1).trans rfl; have hcz10_2 : w4.cell? ⟨gb470002, 2, none⟩ = some (.int .i64 0) := (blk_cell BK470002.out 2).trans rfl; have hfz10_0 := blk_frozen BK470002.out 0; have hfz10_1 := blk_frozen BK470002.out 1; have hfz10_2 := blk_frozen BK470002.out 2))
 refine bodyPost_ret (results_cell_row rfl _ _ gb470002 46 #[.int .i64 a0_0, .int .i64 a0_1, .int .i64 a0_2] (0, 0) _ rfl (by (with_reducible repeat (first | refine blk_drewN ?_ _ | refine blk_drew ?_ | refine blk_alloc ?_ _)); refine blk_put (cs := #[.int .i64 a0_0, .int .i64 a0_1, .int .i64 0]) ?_ 2 _ rfl; (with_reducible repeat (first | refine blk_drewN ?_ _ | refine blk_drew ?_ | refine blk_alloc ?_ _)); refine blk_put (cs := #[.int .i64 a0_0, .int .i64 0, .int .i64 0]) ?_ 1 _ rfl; (with_reducible repeat (first | refine blk_drewN ?_ _ | refine blk_drew ?_ | refine blk_alloc ?_ _)); refine blk_put (cs := #[.int .i64 0, .int .i64 0, .int .i64 0]) ?_ 0 _ rfl; (with_reducible repeat (first | refine blk_drewN ?_ _ | refine blk_drew ?_ | refine blk_alloc ?_ _)); refine blk_far ?_ NB470002_470003.out _; (with_reducible repeat (first | refine blk_drewN ?_ _ | refine blk_drew ?_ | refine blk_alloc ?_ _)); refine blk_far ?_ NB470002_470003.out _; (with_reducible repeat (first | refine blk_drewN ?_ _ | refine blk_drew ?_ | refine blk_alloc ?_ _)); refine blk_far ?_ NB470002_470003.out _; (with_reducible repeat (first | refine blk_drewN ?_ _ | refine blk_drew ?_ | refine blk_alloc ?_ _)); exact BK470002.out) Try.underlying46 rfl (by kernel_rfl)) rfl ?_
 exact ⟨by first | rfl | (simp [errW_none, errW_some] <;> rfl) | (simp [*, errW_none, errW_some] <;> rfl), by repeat (first | (with_reducible first | exact HB.out | apply below_alloc | apply pw_below_drewN | apply below_drew1 | refine below_set ?_ GE470001.out | refine below_set ?_ GE470002.out | refine below_set ?_ GE470003.out) | exact HB.out)⟩

end Go.Proofs.Ytdjiclhjficgfaa.PX
