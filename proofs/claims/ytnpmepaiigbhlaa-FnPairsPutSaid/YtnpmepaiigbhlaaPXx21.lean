-- Written by a program of this workplace (wip/xprint.py over the kit's print.py) out of the translation.
import Derived.Test.YtnpmepaiigbhlaaPXx0
import Derived.Test.YtnpmepaiigbhlaaPXx9
import Derived.Test.YtnpmepaiigbhlaaPXx12
import Derived.Test.YtnpmepaiigbhlaaPXx20
namespace Go.Proofs.Ytnpmepaiigbhlaa.PX
open Go.RowKit Go.Proofs.YtnpmepaiigbhlaaW.PrintWords Go.Proofs.YtnpmepaiigbhlaaW.PrintLast Go.Proofs.YtnpmepaiigbhlaaW.PrintMore
attribute [local go_sem] max2_int min2_int max_two min_two max_three min_three max_four min_four   -- for this text's walks alone
set_option linter.unusedVariables false
set_option linter.unusedSimpArgs false

/-! ### laws_toPairS: function 36 -/
def laws_toPairS.l0 : Nat → List (S71) → List (S58) → Int → Option ((List (S58)))
  | 0, _, _, _ => none
  | k + 1, x0, x3, x4 => if x4 < (x0.length : Int) then (if 0 ≤ x4 then ((laws_toPair.f ((rd_T71 x0 x4).f0) ((rd_T71 x0 x4).f1)).bind fun bt370005 => (if x4 < (x3.length : Int) then (laws_toPairS.l0 k x0 (x3.set (x4 : Int).toNat (⟨bt370005.1, bt370005.2⟩ : S58)) (wrap64 (x4 + 1))) else (none))) else (none)) else (some x3)
def laws_toPairS.f (k : Nat) (l0 : List (S71)) : Option ((List (S58))) := if 0 ≤ (l0.length : Int) then (if ((l0.length : Int) : Int).toNat ≤ 17592186044416 then (laws_toPairS.l0 k l0 (List.replicate ((l0.length : Int) : Int).toNat z58) 0) else (none)) else (none)
theorem laws_toPairS.mono_l : ∀ k, (∀ y0 y1 y2, LeO (laws_toPairS.l0 k y0 y1 y2) (laws_toPairS.l0 (k + 1) y0 y1 y2))
  | 0 => fun _ _ _ r h => by simp [laws_toPairS.l0] at h
  | k + 1 => by
    have ih0 := laws_toPairS.mono_l k
    · intro y0 y1 y2
      unfold laws_toPairS.l0
      repeat' first
      | (with_reducible exact ih0 _ _ _)
      | (with_reducible exact LeO.refl _)
      | (with_reducible exact LeO.none _)
      | (with_reducible refine LeO.ite ?_ ?_)
      | (with_reducible refine LeO.bind ?_ (fun _ => ?_))
      | exact ih0 _ _ _
      | exact LeO.none _
      | refine LeO.ite ?_ ?_
      | refine LeO.bind ?_ (fun _ => ?_)
theorem laws_toPairS.mono : ∀ a0 k, LeO (laws_toPairS.f k a0) (laws_toPairS.f (k + 1) a0) := by
  intro a0 k
  have ih0 := laws_toPairS.mono_l k
  unfold laws_toPairS.f
  repeat' first
      | (with_reducible exact ih0 _ _ _)
      | (with_reducible exact LeO.refl _)
      | (with_reducible exact LeO.none _)
      | (with_reducible refine LeO.ite ?_ ?_)
      | (with_reducible refine LeO.bind ?_ (fun _ => ?_))
      | exact ih0 _ _ _
      | exact LeO.none _
      | refine LeO.ite ?_ ?_
      | refine LeO.bind ?_ (fun _ => ?_)
set_option maxHeartbeats 8000000 in
set_option maxRecDepth 100000 in
theorem laws_toPairS.calls (k : Nat) (A0 : Option Addr) (c0 : Nat) (l0 : List (S71)) (r : List (S58)) (w : World) (hr0 : Kd.C k71 w A0 l0.length l0) (hc0 : l0.length ≤ c0) (h : laws_toPairS.f k l0 = some r) :
    Calls Try.prog 36 #[.slice A0 l0.length c0] w fun e w' => ∃ v0_ : Value, e = .returned (v0_) ∧ Kd.R k58 58 w' w.heap.size (fun _ => True) v0_ r ∧ Below w.heap.size w w' := by
  have hu71 := Try.underlying71
  have hu58 := Try.underlying58
  have HR0 := Aside0.mk hr0
  have HC0 := Aside0.mk hc0
  clear hr0 hc0
  have HB := Aside0.mk (Below.refl w.heap.size w)
  have H : (if 0 ≤ (l0.length : Int) then (if ((l0.length : Int) : Int).toNat ≤ 17592186044416 then (laws_toPairS.l0 k l0 (List.replicate ((l0.length : Int) : Int).toNat z58) 0) else (none)) else (none)) = some r := h
  clear h
  by_cases c2 : 0 ≤ (l0.length : Int)
  · rw [if_pos c2] at H
    have c2b0 := eq_true c2
    have c2b1 : decide (0 ≤ (l0.length : Int)) = true := decide_eq_true c2
    clear c2
    by_cases c3 : ((l0.length : Int) : Int).toNat ≤ 17592186044416
    · rw [if_pos c3] at H
      have c3b0 := eq_true c3
      have c3b1 : decide (((l0.length : Int) : Int).toNat ≤ 17592186044416) = true := decide_eq_true c3
      clear c3
      obtain ⟨y370001, hy370001⟩ : ∃ y_ : List (S58), y_ = (List.replicate ((l0.length : Int) : Int).toNat z58) := ⟨_, rfl⟩
      replace H : (laws_toPairS.l0 k l0 y370001 0) = some r := by first | (rw [hy370001]; with_reducible exact H) | (have H2_ := (Option.bind_some _ _).symm.trans H; rw [hy370001]; with_reducible exact H2_) | (have H2_ := (Option.bind_some _ _).symm.trans H; with_reducible exact H2_) | with_reducible exact H | (rw [hy370001]; exact H) | exact H
      have Ny370001 := Aside0.mk hy370001
      clear hy370001
      have H' := Aside0.mk H
      clear H
      go_enter Try.func36, Try.ntmps36
      go_wp2_with (first | ((with_reducible refine gate_dst (N := 7) rfl ?_); refine Kd.R_make k58 _ 58 rfl (N := 7) rfl 49 _ _ rfl (l0.length : Int) rfl rfl Try.underlying49 (.agg #[(.int .i64 0), (.int .i64 0)]) 16 info58 rfl (by decide) (by omega) z58 (ok := fun _ => True) (okp := fun _ => True) (k58_mkM _ _ _ z58 ) (fun _ hk => hk) trivial (of_decide_eq_true (by first | (with_reducible assumption) | assumption)) (Nat.le_trans (Nat.mul_le_mul_right _ (of_decide_eq_true (by first | (with_reducible assumption) | assumption) : (l0.length : Int).toNat ≤ 17592186044416)) (by omega)) (Below.refl _ _) (Nat.le_refl _) ?_; intro v370002 w4 ho5 hb hg_ hnew_; clear hg_ hnew_; (first | rw [← Ny370001.out] at ho5 | (simp only [Int.reduceToNat] at ho5; rw [← Ny370001.out] at ho5)); have n0_ := Aside0.mk (Kd.R_lower ho5 (below_size (by repeat (first | (with_reducible first | exact HB.out | apply below_alloc | apply pw_below_drewN | apply below_drew1) | exact HB.out)))); have n1_ := Aside0.mk (below_step (by repeat (first | (with_reducible first | exact HB.out | apply below_alloc | apply pw_below_drewN | apply below_drew1) | exact HB.out)) hb); clear HB; have HO370003 := n0_; have HB := n1_; clear n0_ n1_; clear hb ho5))
      go_loopg [4] k (fun kq v4 w' => ∃ (x3_1 : List (S58)) (x4_1 : Int), v4 = .int .i64 x4_1 ∧ Aside0 (laws_toPairS.l0 kq l0 x3_1 x4_1 = some r) ∧ Aside0 (kq ≤ k) ∧ Aside0 (Kd.R k58 58 w' w.heap.size (fun _ => True) v370002 x3_1) ∧ Aside0 (Below w.heap.size w w'))
      case atStart => exact ⟨(y370001), (0), (by first | rfl | (simp; done) | (simp [*]; done)), H', ⟨Nat.le_refl _⟩, ⟨by (with_reducible repeat (first | apply Kd.R_alloc | apply Kd.R_drewN | apply Kd.R_drew)); exact HO370003.out⟩, ⟨by repeat (first | (with_reducible first | exact HB.out | apply below_alloc | apply pw_below_drewN | apply below_drew1) | exact HB.out)⟩⟩
      case round =>
        clear H'
        try clear c2
        try clear c2b0
        try clear c2b1
        try clear p2
        try clear c3
        try clear c3b0
        try clear c3b1
        obtain ⟨x3_1, x4_1, rfl, HA, HK1, HO_3, HB⟩ := hrel
        cases gk with
        | zero => exact absurd HA.out (by simp [laws_toPairS.l0])
        | succ k1 =>
          have H := HA.out
          clear HA
          simp only [laws_toPairS.l0] at H
          by_cases c6 : x4_1 < (l0.length : Int)
          · rw [if_pos c6] at H
            have c6b0 : decide (x4_1 < (l0.length : Int)) = true := decide_eq_true c6
            clear c6
            by_cases c7 : 0 ≤ x4_1
            · rw [if_pos c7] at H
              have c7b0 : decide (0 ≤ x4_1) = true := decide_eq_true c7
              clear c7
              replace H := Option.bind_eq_some_iff.mp H
              obtain ⟨⟨t370005, t370006⟩, A80, H⟩ := H
              replace H : (if x4_1 < (x3_1.length : Int) then (laws_toPairS.l0 k1 l0 (x3_1.set (x4_1 : Int).toNat (⟨t370005, t370006⟩ : S58)) (wrap64 (x4_1 + 1))) else (none)) = some r := H
              have A8 := Aside0.mk A80
              clear A80
              by_cases c9 : x4_1 < (x3_1.length : Int)
              · rw [if_pos c9] at H
                have c9b0 : decide (x4_1 < (x3_1.length : Int)) = true := decide_eq_true c9
                clear c9
                obtain ⟨y370007, hy370007⟩ : ∃ y_ : List (S58), y_ = (x3_1.set (x4_1 : Int).toNat (⟨t370005, t370006⟩ : S58)) := ⟨_, rfl⟩
                replace H : (laws_toPairS.l0 k1 l0 y370007 (wrap64 (x4_1 + 1))) = some r := by first | (rw [hy370007]; with_reducible exact H) | (have H2_ := (Option.bind_some _ _).symm.trans H; rw [hy370007]; with_reducible exact H2_) | (have H2_ := (Option.bind_some _ _).symm.trans H; with_reducible exact H2_) | with_reducible exact H | (rw [hy370007]; exact H) | exact H
                have Ny370007 := Aside0.mk hy370007
                clear hy370007
                have H' := Aside0.mk H
                clear H
                have p370004 : 0 ≤ (x4_1 : Int) := of_decide_eq_true (by first | (with_reducible assumption) | assumption)
                have q370004 : x4_1 < (l0.length : Int) := of_decide_eq_true (by first | (with_reducible assumption) | assumption)
                obtain ⟨ad370004, e370004, hx370004_0, hx370004_1⟩ := at_T71 HR0.out x4_1 p370004 q370004
                cases e370004
                replace hx370004_0 := (HB.out.cell (World.block_lt_of_cell? w _ hx370004_0)).trans hx370004_0
                replace hx370004_1 := (HB.out.cell (World.block_lt_of_cell? w _ hx370004_1)).trans hx370004_1
                replace p370004 := eq_true p370004
                replace q370004 := eq_true q370004
                go_wp2_with (first | ((with_reducible refine gate_callee (f := 62) rfl ?_); refine goesL_ (some 20) rfl rfl Try.func62 (by kernel_rfl) rfl #[.agg #[.int .i64 ((rd_T71 l0 x4_1).f0), .int .i64 ((rd_T71 l0 x4_1).f1)]] rfl (by (try simp only [List.map_toArray, List.map_cons, List.map_nil]); first | done | rfl | (simp only [List.length_drop, List.length_take]; rfl)) ?_; (with_reducible refine (laws_toPair.calls ((rd_T71 l0 x4_1).f0) ((rd_T71 l0 x4_1).f1) t370005 t370006 _ A8.out).mono ?_); rintro e w11 ⟨rfl, hb⟩; refine ⟨_, rfl, ?_⟩; have n0_ := Aside0.mk (Kd.R_below (by (with_reducible repeat (first | apply Kd.R_alloc | apply Kd.R_drewN | apply Kd.R_drew)); exact HO_3.out) hb); have n1_ := Aside0.mk (below_step (by repeat (first | (with_reducible first | exact HB.out | apply below_alloc | apply pw_below_drewN | apply below_drew1) | exact HB.out)) hb); clear HO_3; clear HB; have HO_3 := n0_; have HB := n1_; clear n0_ n1_; (try clear hb); (try clear hb2); (try clear hk); (try clear hi); have p10 : 0 ≤ (x4_1 : Int) := of_decide_eq_true (by first | (with_reducible assumption) | assumption); have q10 : (x4_1 : Int) < ((x3_1.length : Int) : Int) := of_decide_eq_true (by first | (with_reducible assumption) | assumption); obtain ⟨go10, co10, eo10, gb10, gl10, cl10, HG10⟩ := Kd.R_form HO_3.out (by omega); (first | cases eo10 | (injection eo10 with ea_ en_ ec_; (first | subst ea_ | (injection ea_ with ea_; subst ea_)); subst ec_; clear en_)); have GB10 := Aside0.mk gb10; have GG10 := Aside0.mk HG10; clear gb10 gl10 HG10; obtain ⟨ce10, hcl10, hM10, hcc10, hfr10⟩ := Kd.R_elem HO_3.out z58 (x4_1 : Int) p10 q10; obtain rfl := k58_openM hM10; have hx10_0 : w11.cell? ⟨go10, (x4_1 : Int).toNat * 2, none⟩ = some (.int .i64 ((rd_T58 x3_1 x4_1).f0)) := hcc10 0 _ rfl; have hx10_1 : w11.cell? ⟨go10, (x4_1 : Int).toNat * 2 + 1, none⟩ = some (.int .i64 ((rd_T58 x3_1 x4_1).f1)) := hcc10 1 _ rfl; have hf10_0 : w11.frozen? ⟨go10, (x4_1 : Int).toNat * 2, none⟩ = false := hfr10 0; have hf10_1 : w11.frozen? ⟨go10, (x4_1 : Int).toNat * 2 + 1, none⟩ = false := hfr10 1; clear hcl10 hcc10 hfr10 hM10; replace p10 := eq_true p10; replace q10 := eq_true q10; have HX12 := Aside0.mk (show Kd.R k58 58 w11 w.heap.size (fun _ => True) (.slice (some ⟨go10, 0, none⟩) x3_1.length co10) x3_1 from (by (with_reducible repeat (first | apply Kd.R_alloc | apply Kd.R_drewN | apply Kd.R_drew)); exact HO_3.out)); obtain ⟨ce12, hcl12, hM12, hcc12, hfr12⟩ := Kd.R_elem HX12.out z58 (x4_1 : Int) (of_decide_eq_true (by first | (with_reducible assumption) | assumption)) (by have h_ : (x4_1 : Int) < ((x3_1.length : Int) : Int) := of_decide_eq_true (by first | (with_reducible assumption) | assumption); first | exact h_ | (have e_ := (Kd.R_reads' HO_3.out).1; omega) | simpa using h_); obtain rfl := k58_openM hM12; have HP12 := Kd.R_seg HX12.out (x4_1 : Int) (of_decide_eq_true (by first | (with_reducible assumption) | assumption)) (by have h_ : (x4_1 : Int) < ((x3_1.length : Int) : Int) := of_decide_eq_true (by first | (with_reducible assumption) | assumption); first | exact h_ | (have e_ := (Kd.R_reads' HO_3.out).1; omega) | simpa using h_) (seg := [.int .i64 t370005, .int .i64 t370006]) (j := 0) hcl12 hcc12 (show 2 ≤ 2 from by decide) (x' := (⟨t370005, t370006⟩ : S58)) (k58_mkM _ _ _ (⟨t370005, t370006⟩ : S58) ) (fun _ hk => hk); have hx12_0 := hcc12 0 _ rfl; (try simp only [show (k58).sz = 2 from rfl, Nat.mul_one, Nat.add_zero] at hx12_0); have hf12_0 := hfr12 0; (try simp only [show (k58).sz = 2 from rfl, Nat.mul_one, Nat.add_zero] at hf12_0); have hx12_1 := hcc12 1 _ rfl; (try simp only [show (k58).sz = 2 from rfl, Nat.mul_one, Nat.add_zero] at hx12_1); have hf12_1 := hfr12 1; (try simp only [show (k58).sz = 2 from rfl, Nat.mul_one, Nat.add_zero] at hf12_1); clear hcl12 hcc12 hfr12 hM12) | ((with_reducible refine gate_store (t := 58) (p := 21) rfl ?_); refine store_event (t := 58) (p := 21) (v := ?vo_w13) (w1 := ((w11.setCell ⟨go10, (x4_1 : Int).toNat * 2, none⟩ (.int .i64 t370005)).setCell ⟨go10, (x4_1 : Int).toNat * 2 + 1, none⟩ (.int .i64 t370006))) ?hg ?ho ?hn ?hr ?_; (case ho => rfl); (case hg => rfl); (case hn => rfl); (case hr => first | (go_simp; done) | (go_simp; rfl)); intro w13 hw; have hg : w11.grownBy w13 (some go10) := (by rw [hw]; exact HP12.2); have hp_ : Kd.R k58 58 w13 w.heap.size (fun _ => True) (.slice (some ⟨go10, 0, none⟩) x3_1.length co10) y370007 := (by rw [hw, Ny370007.out]; exact HP12.1); clear HP12; have n0_ := Aside0.mk (hp_); have n1_ := Aside0.mk ((by rw [hw]; exact below_set (below_set (HB.out) GB10.out) GB10.out : Below w.heap.size w w13)); clear HO_3; clear HB; have HO_3 := n0_; have HB := n1_; clear n0_ n1_; clear hg hw hp_))
                go_roundg k1
                case measure => have := HK1.out; omega
                case rel => exact ⟨(y370007), (wrap64 (x4_1 + 1)), (by first | rfl | (simp; done) | (simp [*]; done)), H', ⟨by have := HK1.out; omega⟩, ⟨by (with_reducible repeat (first | apply Kd.R_alloc | apply Kd.R_drewN | apply Kd.R_drew)); exact HO_3.out⟩, ⟨by repeat (first | (with_reducible first | exact HB.out | apply below_alloc | apply pw_below_drewN | apply below_drew1) | exact HB.out)⟩⟩
              · rw [if_neg c9] at H
                exact absurd H (by simp)
            · rw [if_neg c7] at H
              exact absurd H (by simp)
          · rw [if_neg c6] at H
            have c6b0 : decide (x4_1 < (l0.length : Int)) = false := decide_eq_false c6
            clear c6
            obtain rfl := Option.some.inj H
            go_wp2
            go_ret
            exact ⟨_, by first | rfl | (simp [errW_none, errW_some] <;> rfl) | (simp [*, errW_none, errW_some] <;> rfl), by (with_reducible repeat (first | apply Kd.R_alloc | apply Kd.R_drewN | apply Kd.R_drew)); exact HO_3.out, by repeat (first | (with_reducible first | exact HB.out | apply below_alloc | apply pw_below_drewN | apply below_drew1) | exact HB.out)⟩
    · rw [if_neg c3] at H
      exact absurd H (by simp)
  · rw [if_neg c2] at H
    exact absurd H (by simp)

/-! ### impl_isVal: function 69 -/
def impl_isVal.f (a0 : Int) : Option (Bool) := (impl_within.f a0 (-9999) 9999).bind fun t700001 => (some t700001)
set_option maxHeartbeats 8000000 in
set_option maxRecDepth 100000 in
theorem impl_isVal.calls (a0 : Int) (r : Bool) (w : World) (h : impl_isVal.f a0 = some r) :
    Calls Try.prog 69 #[.int .i64 a0] w fun e w' => e = .returned (.bool r) ∧ Drawn0 w w' := by
  have H : ((impl_within.f a0 (-9999) 9999).bind fun t700001 => (some t700001)) = some r := h
  clear h
  replace H := Option.bind_eq_some_iff.mp H
  obtain ⟨t700001, A20, H⟩ := H
  replace H : (some t700001) = some r := H
  have A2 := Aside0.mk A20
  clear A20
  obtain rfl := Option.some.inj H
  go_enter Try.func69, Try.ntmps69
  go_wp2_with (first | ((with_reducible refine gate_callee (f := 52) rfl ?_); refine goesL_ (some 4) rfl rfl Try.func52 (by kernel_rfl) rfl #[.int .i64 a0, .int .i64 (-9999), .int .i64 9999] rfl (by (try simp only [List.map_toArray, List.map_cons, List.map_nil]); first | done | rfl | (simp only [List.length_drop, List.length_take]; rfl)) ?_; (with_reducible refine (impl_within.calls a0 (-9999) 9999 t700001 _ A2.out).mono ?_); rintro e w' ⟨rfl, ⟨nd, rfl⟩⟩; refine ⟨_, rfl, ?_⟩))
  go_ret
  exact ⟨by first | rfl | (simp; done) | (simp [*]; done), by repeat (first | exact Drawn0.refl _ | apply Drawn0.step)⟩

/-! ### impl_pairsOk: function 63 -/
def impl_pairsOk.l0 : Nat → List (S58) → List (S58) → Int → Int → Option (Bool)
  | 0, _, _, _, _ => none
  | k + 1, x0, x8, x9, x10 => if x10 < x9 then (if 0 ≤ x10 then (if x10 < (x8.length : Int) then ((impl_isKey.f ((rd_T58 x8 x10).f0)).bind fun t640003 => (if t640003 = true then ((impl_isVal.f ((rd_T58 x8 x10).f1)).bind fun t640004 => (if t640004 = true then (if x10 > 0 then (if 0 ≤ (wrap64 (x10 - 1)) then (if (wrap64 (x10 - 1)) < (x0.length : Int) then (if ((rd_T58 x0 (wrap64 (x10 - 1))).f0) ≥ ((rd_T58 x8 x10).f0) then (some false) else (impl_pairsOk.l0 k x0 x8 x9 (wrap64 (x10 + 1)))) else (none)) else (none)) else (impl_pairsOk.l0 k x0 x8 x9 (wrap64 (x10 + 1)))) else (some false))) else (some false))) else (none)) else (none)) else (some true)
def impl_pairsOk.f (k : Nat) (l0 : List (S58)) : Option (Bool) := if (l0.length : Int) > 32 then (some false) else (impl_pairsOk.l0 k l0 l0 (l0.length : Int) 0)
theorem impl_pairsOk.mono_l : ∀ k, (∀ y0 y1 y2 y3, LeO (impl_pairsOk.l0 k y0 y1 y2 y3) (impl_pairsOk.l0 (k + 1) y0 y1 y2 y3))
  | 0 => fun _ _ _ _ r h => by simp [impl_pairsOk.l0] at h
  | k + 1 => by
    have ih0 := impl_pairsOk.mono_l k
    · intro y0 y1 y2 y3
      unfold impl_pairsOk.l0
      repeat' first
      | (with_reducible exact ih0 _ _ _ _)
      | (with_reducible exact LeO.refl _)
      | (with_reducible exact LeO.none _)
      | (with_reducible refine LeO.ite ?_ ?_)
      | (with_reducible refine LeO.bind ?_ (fun _ => ?_))
      | exact ih0 _ _ _ _
      | exact LeO.none _
      | refine LeO.ite ?_ ?_
      | refine LeO.bind ?_ (fun _ => ?_)
theorem impl_pairsOk.mono : ∀ a0 k, LeO (impl_pairsOk.f k a0) (impl_pairsOk.f (k + 1) a0) := by
  intro a0 k
  have ih0 := impl_pairsOk.mono_l k
  unfold impl_pairsOk.f
  repeat' first
      | (with_reducible exact ih0 _ _ _ _)
      | (with_reducible exact LeO.refl _)
      | (with_reducible exact LeO.none _)
      | (with_reducible refine LeO.ite ?_ ?_)
      | (with_reducible refine LeO.bind ?_ (fun _ => ?_))
      | exact ih0 _ _ _ _
      | exact LeO.none _
      | refine LeO.ite ?_ ?_
      | refine LeO.bind ?_ (fun _ => ?_)
set_option maxHeartbeats 8000000 in
set_option maxRecDepth 100000 in
theorem impl_pairsOk.calls (k : Nat) (A0 : Option Addr) (c0 : Nat) (l0 : List (S58)) (r : Bool) (w : World) (hr0 : Kd.C k58 w A0 l0.length l0) (hc0 : l0.length ≤ c0) (h : impl_pairsOk.f k l0 = some r) :
    Calls Try.prog 63 #[.slice A0 l0.length c0] w fun e w' => e = .returned (.bool r) ∧ Below w.heap.size w w' := by
  have hu58 := Try.underlying58
  have HR0 := Aside0.mk hr0
  have HC0 := Aside0.mk hc0
  clear hr0 hc0
  have HB := Aside0.mk (Below.refl w.heap.size w)
  have H : (if (l0.length : Int) > 32 then (some false) else (impl_pairsOk.l0 k l0 l0 (l0.length : Int) 0)) = some r := h
  clear h
  by_cases c2 : (l0.length : Int) > 32
  · rw [if_pos c2] at H
    have c2b0 : decide (32 < (l0.length : Int)) = true := decide_eq_true c2
    have c2b1 : decide (32 < l0.length) = true := decide_eq_true (by omega)
    clear c2
    obtain rfl := Option.some.inj H
    go_enter Try.func63, Try.ntmps63
    go_wp2
    repeat (go_quiet (fail); try go_wp2)
    go_ret
    exact ⟨by first | rfl | (simp [errW_none, errW_some] <;> rfl) | (simp [*, errW_none, errW_some] <;> rfl), by repeat (first | (with_reducible first | exact HB.out | apply below_alloc | apply pw_below_drewN | apply below_drew1) | exact HB.out)⟩
  · rw [if_neg c2] at H
    have c2b0 : decide (32 < (l0.length : Int)) = false := decide_eq_false c2
    have c2b1 : decide (32 < l0.length) = false := decide_eq_false (by omega)
    clear c2
    have H' := Aside0.mk H
    clear H
    go_enter Try.func63, Try.ntmps63
    go_wp2
    repeat (go_quiet (fail); try go_wp2)
    go_loopg [10] k (fun kq v10 w' => ∃ (x10_1 : Int), v10 = .int .i64 x10_1 ∧ Aside0 (impl_pairsOk.l0 kq l0 l0 (l0.length : Int) x10_1 = some r) ∧ Aside0 (kq ≤ k) ∧ Aside0 (Below w.heap.size w w'))
    case atStart => exact ⟨(0), (by first | rfl | (simp; done) | (simp [*]; done)), H', ⟨Nat.le_refl _⟩, ⟨by repeat (first | (with_reducible first | exact HB.out | apply below_alloc | apply pw_below_drewN | apply below_drew1) | exact HB.out)⟩⟩
    case round =>
      clear H'
      try clear c2
      try clear c2b0
      try clear c2b1
      try clear p2
      obtain ⟨x10_1, rfl, HA, HK1, HB⟩ := hrel
      cases gk with
      | zero => exact absurd HA.out (by simp [impl_pairsOk.l0])
      | succ k1 =>
        have H := HA.out
        clear HA
        simp only [impl_pairsOk.l0] at H
        by_cases c3 : x10_1 < (l0.length : Int)
        · rw [if_pos c3] at H
          have c3b0 : decide (x10_1 < (l0.length : Int)) = true := decide_eq_true c3
          clear c3
          by_cases c4 : 0 ≤ x10_1
          · rw [if_pos c4] at H
            have c4b0 : decide (0 ≤ x10_1) = true := decide_eq_true c4
            clear c4
            by_cases c5 : x10_1 < (l0.length : Int)
            · rw [if_pos c5] at H
              have c5b0 : decide (x10_1 < (l0.length : Int)) = true := decide_eq_true c5
              clear c5
              replace H := Option.bind_eq_some_iff.mp H
              obtain ⟨t640003, A60, H⟩ := H
              replace H : (if t640003 = true then ((impl_isVal.f ((rd_T58 l0 x10_1).f1)).bind fun t640004 => (if t640004 = true then (if x10_1 > 0 then (if 0 ≤ (wrap64 (x10_1 - 1)) then (if (wrap64 (x10_1 - 1)) < (l0.length : Int) then (if ((rd_T58 l0 (wrap64 (x10_1 - 1))).f0) ≥ ((rd_T58 l0 x10_1).f0) then (some false) else (impl_pairsOk.l0 k1 l0 l0 (l0.length : Int) (wrap64 (x10_1 + 1)))) else (none)) else (none)) else (impl_pairsOk.l0 k1 l0 l0 (l0.length : Int) (wrap64 (x10_1 + 1)))) else (some false))) else (some false)) = some r := H
              have A6 := Aside0.mk A60
              clear A60
              by_cases c7 : t640003 = true
              · subst c7
                have H1 : ((impl_isVal.f ((rd_T58 l0 x10_1).f1)).bind fun t640004 => (if t640004 = true then (if x10_1 > 0 then (if 0 ≤ (wrap64 (x10_1 - 1)) then (if (wrap64 (x10_1 - 1)) < (l0.length : Int) then (if ((rd_T58 l0 (wrap64 (x10_1 - 1))).f0) ≥ ((rd_T58 l0 x10_1).f0) then (some false) else (impl_pairsOk.l0 k1 l0 l0 (l0.length : Int) (wrap64 (x10_1 + 1)))) else (none)) else (none)) else (impl_pairsOk.l0 k1 l0 l0 (l0.length : Int) (wrap64 (x10_1 + 1)))) else (some false))) = some r := by rw [if_pos rfl] at H; exact H
                clear H
                have H := H1
                clear H1
                replace H := Option.bind_eq_some_iff.mp H
                obtain ⟨t640004, A80, H⟩ := H
                replace H : (if t640004 = true then (if x10_1 > 0 then (if 0 ≤ (wrap64 (x10_1 - 1)) then (if (wrap64 (x10_1 - 1)) < (l0.length : Int) then (if ((rd_T58 l0 (wrap64 (x10_1 - 1))).f0) ≥ ((rd_T58 l0 x10_1).f0) then (some false) else (impl_pairsOk.l0 k1 l0 l0 (l0.length : Int) (wrap64 (x10_1 + 1)))) else (none)) else (none)) else (impl_pairsOk.l0 k1 l0 l0 (l0.length : Int) (wrap64 (x10_1 + 1)))) else (some false)) = some r := H
                have A8 := Aside0.mk A80
                clear A80
                by_cases c9 : t640004 = true
                · subst c9
                  have H1 : (if x10_1 > 0 then (if 0 ≤ (wrap64 (x10_1 - 1)) then (if (wrap64 (x10_1 - 1)) < (l0.length : Int) then (if ((rd_T58 l0 (wrap64 (x10_1 - 1))).f0) ≥ ((rd_T58 l0 x10_1).f0) then (some false) else (impl_pairsOk.l0 k1 l0 l0 (l0.length : Int) (wrap64 (x10_1 + 1)))) else (none)) else (none)) else (impl_pairsOk.l0 k1 l0 l0 (l0.length : Int) (wrap64 (x10_1 + 1)))) = some r := by rw [if_pos rfl] at H; exact H
                  clear H
                  have H := H1
                  clear H1
                  by_cases c10 : x10_1 > 0
                  · rw [if_pos c10] at H
                    have c10b0 : decide (0 < x10_1) = true := decide_eq_true c10
                    clear c10
                    obtain ⟨ji11, hji11⟩ : ∃ j_ : Int, (wrap64 (x10_1 - 1)) = j_ := ⟨_, rfl⟩
                    replace H : (if 0 ≤ (ji11) then (if (ji11) < (l0.length : Int) then (if ((rd_T58 l0 (ji11)).f0) ≥ ((rd_T58 l0 x10_1).f0) then (some false) else (impl_pairsOk.l0 k1 l0 l0 (l0.length : Int) (wrap64 (x10_1 + 1)))) else (none)) else (none)) = some r := by first | (rw [hji11] at H; exact H) | (simp only [hji11] at H ⊢; exact H)
                    (try rw [hji11] at A6)
                    (try rw [hji11] at A8)
                    have hji11w : (IntKind.i64.wrap (x10_1 - 1)) = ji11 := (i64_w _).trans hji11
                    by_cases c12 : 0 ≤ (ji11)
                    · rw [if_pos c12] at H
                      have c12b0 : decide (0 ≤ (ji11)) = true := decide_eq_true c12
                      clear c12
                      by_cases c13 : (ji11) < (l0.length : Int)
                      · rw [if_pos c13] at H
                        have c13b0 : decide ((ji11) < (l0.length : Int)) = true := decide_eq_true c13
                        clear c13
                        by_cases c14 : ((rd_T58 l0 (ji11)).f0) ≥ ((rd_T58 l0 x10_1).f0)
                        · rw [if_pos c14] at H
                          have c14b0 : decide (((rd_T58 l0 x10_1).f0) ≤ ((rd_T58 l0 (ji11)).f0)) = true := decide_eq_true c14
                          clear c14
                          obtain rfl := Option.some.inj H
                          have p640001 : 0 ≤ (x10_1 : Int) := of_decide_eq_true (by first | (with_reducible assumption) | assumption)
                          have q640001 : x10_1 < (l0.length : Int) := of_decide_eq_true (by first | (with_reducible assumption) | assumption)
                          obtain ⟨ad640001, e640001, hx640001_0, hx640001_1⟩ := at_T58 HR0.out x10_1 p640001 q640001
                          cases e640001
                          replace hx640001_0 := (HB.out.cell (World.block_lt_of_cell? w _ hx640001_0)).trans hx640001_0
                          replace hx640001_1 := (HB.out.cell (World.block_lt_of_cell? w _ hx640001_1)).trans hx640001_1
                          replace p640001 := eq_true p640001
                          replace q640001 := eq_true q640001
                          go_wp2_with (first | ((with_reducible refine gate_dst (N := 4) rfl ?_); refine box_event ?hg (N := 4) ?hd (cs := #[.int .i64 0, .int .i64 0]) (t := 58) ?hr ?_; (case hd => rfl); (case hg => rfl); (case hr => first | (go_simp; done) | (go_simp; rfl)); intro gb640002 hg w15 hbox hb; have n0_ := Aside0.mk (below_step (by repeat (first | (with_reducible first | exact HB.out | apply below_alloc | apply pw_below_drewN | apply below_drew1) | exact HB.out)) hb); have n1_ := Aside0.mk (hbox); have n2_ := Aside0.mk ((by rw [hg]; exact (below_size (by repeat (first | (with_reducible first | exact HB.out | apply below_alloc | apply pw_below_drewN | apply below_drew1) | exact HB.out))) : w.heap.size ≤ gb640002)); have n3_ := Aside0.mk ((by rw [hg]; exact (below_size (by repeat (first | (with_reducible first | exact HB.out | apply below_alloc | apply pw_below_drewN | apply below_drew1) | exact HB.out))) : w.heap.size ≤ gb640002)); clear HB; have HB := n0_; have BK640002 := n1_; have GW640002 := n2_; have GE640002 := n3_; clear n0_ n1_ n2_ n3_; clear hb hbox hg; have hcz16_0 : w15.cell? ⟨gb640002, 0, none⟩ = some (.int .i64 0) := (blk_cell BK640002.out 0).trans rfl; have hcz16_1 : w15.cell? ⟨gb640002, 1, none⟩ = some (.int .i64 0) := (blk_cell BK640002.out 1).trans rfl; have hfz16_0 := blk_frozen BK640002.out 0; have hfz16_1 := blk_frozen BK640002.out 1) | (go_at_call 45; (with_reducible refine (impl_isKey.calls ((rd_T58 l0 x10_1).f0) true _ A6.out).mono ?_); rintro e w' ⟨rfl, ⟨nd, rfl⟩⟩; (try first | exact ⟨rfl, _, World.drewN_drewN _ _ _⟩ | exact ⟨rfl, _, Eq.trans (World.drewN_drewN _ _ _) (congrArg (World.drewN _) (Nat.add_assoc _ _ _))⟩)) | (go_at_call 69; (with_reducible refine (impl_isVal.calls ((rd_T58 l0 x10_1).f1) true _ A8.out).mono ?_); rintro e w' ⟨rfl, ⟨nd, rfl⟩⟩; (try first | exact ⟨rfl, _, World.drewN_drewN _ _ _⟩ | exact ⟨rfl, _, Eq.trans (World.drewN_drewN _ _ _) (congrArg (World.drewN _) (Nat.add_assoc _ _ _))⟩); have p640005 : 0 ≤ ((ji11) : Int) := of_decide_eq_true (by first | (with_reducible assumption) | assumption); have q640005 : (ji11) < (l0.length : Int) := of_decide_eq_true (by first | (with_reducible assumption) | assumption); obtain ⟨ad640005, e640005, hx640005_0, hx640005_1⟩ := at_T58 HR0.out (ji11) p640005 q640005; obtain rfl : ad640001 = ad640005 := (by injection e640005); have hn640005_0 : ad640001.block ≠ gb640002 := Nat.ne_of_lt (Nat.lt_of_lt_of_le (by have := World.block_lt_of_cell? _ _ hx640005_0; first | rwa [add_block] at this | exact this) GW640002.out); have hn640005_1 : ad640001.block ≠ gb640002 := Nat.ne_of_lt (Nat.lt_of_lt_of_le (by have := World.block_lt_of_cell? _ _ hx640005_0; first | rwa [add_block] at this | exact this) GW640002.out); replace hx640005_0 := (HB.out.cell (World.block_lt_of_cell? w _ hx640005_0)).trans hx640005_0; replace hx640005_1 := (HB.out.cell (World.block_lt_of_cell? w _ hx640005_1)).trans hx640005_1; replace hx640005_0 := (cell_far (p := ⟨gb640002, 0, none⟩) (by first | (rw [add_block]; exact hn640005_0) | (show (Addr.add _ _).block ≠ _; rw [add_block]; exact hn640005_0) | exact hn640005_0) (.int .i64 ((rd_T58 l0 x10_1).f0))).trans hx640005_0; replace hx640005_1 := (cell_far (p := ⟨gb640002, 0, none⟩) (by first | (rw [add_block]; exact hn640005_0) | (show (Addr.add _ _).block ≠ _; rw [add_block]; exact hn640005_0) | exact hn640005_0) (.int .i64 ((rd_T58 l0 x10_1).f0))).trans hx640005_1; replace hx640005_0 := (cell_far (p := ⟨gb640002, 1, none⟩) (by first | (rw [add_block]; exact hn640005_1) | (show (Addr.add _ _).block ≠ _; rw [add_block]; exact hn640005_1) | exact hn640005_1) (.int .i64 ((rd_T58 l0 x10_1).f1))).trans hx640005_0; replace hx640005_1 := (cell_far (p := ⟨gb640002, 1, none⟩) (by first | (rw [add_block]; exact hn640005_1) | (show (Addr.add _ _).block ≠ _; rw [add_block]; exact hn640005_1) | exact hn640005_1) (.int .i64 ((rd_T58 l0 x10_1).f1))).trans hx640005_1; (try have hy640005_0 := fun (n_ : Nat) => (show ((((w15.drewN n_).setCell ⟨gb640002, 0, none⟩ (.int .i64 ((rd_T58 l0 x10_1).f0))).setCell ⟨gb640002, 1, none⟩ (.int .i64 ((rd_T58 l0 x10_1).f1)))).cell? _ = some _ from hx640005_0)); (try have hy640005_1 := fun (n_ : Nat) => (show ((((w15.drewN n_).setCell ⟨gb640002, 0, none⟩ (.int .i64 ((rd_T58 l0 x10_1).f0))).setCell ⟨gb640002, 1, none⟩ (.int .i64 ((rd_T58 l0 x10_1).f1)))).cell? _ = some _ from hx640005_1)); clear hn640005_0; clear hn640005_1; replace p640005 := eq_true p640005; replace q640005 := eq_true q640005))
                          repeat (go_quiet (first | ((with_reducible refine gate_dst (N := 4) rfl ?_); refine box_event ?hg (N := 4) ?hd (cs := #[.int .i64 0, .int .i64 0]) (t := 58) ?hr ?_; (case hd => rfl); (case hg => rfl); (case hr => first | (go_simp; done) | (go_simp; rfl)); intro gb640002 hg w15 hbox hb; have n0_ := Aside0.mk (below_step (by repeat (first | (with_reducible first | exact HB.out | apply below_alloc | apply pw_below_drewN | apply below_drew1) | exact HB.out)) hb); have n1_ := Aside0.mk (hbox); have n2_ := Aside0.mk ((by rw [hg]; exact (below_size (by repeat (first | (with_reducible first | exact HB.out | apply below_alloc | apply pw_below_drewN | apply below_drew1) | exact HB.out))) : w.heap.size ≤ gb640002)); have n3_ := Aside0.mk ((by rw [hg]; exact (below_size (by repeat (first | (with_reducible first | exact HB.out | apply below_alloc | apply pw_below_drewN | apply below_drew1) | exact HB.out))) : w.heap.size ≤ gb640002)); clear HB; have HB := n0_; have BK640002 := n1_; have GW640002 := n2_; have GE640002 := n3_; clear n0_ n1_ n2_ n3_; clear hb hbox hg; have hcz16_0 : w15.cell? ⟨gb640002, 0, none⟩ = some (.int .i64 0) := (blk_cell BK640002.out 0).trans rfl; have hcz16_1 : w15.cell? ⟨gb640002, 1, none⟩ = some (.int .i64 0) := (blk_cell BK640002.out 1).trans rfl; have hfz16_0 := blk_frozen BK640002.out 0; have hfz16_1 := blk_frozen BK640002.out 1) | (go_at_call 45; (with_reducible refine (impl_isKey.calls ((rd_T58 l0 x10_1).f0) true _ A6.out).mono ?_); rintro e w' ⟨rfl, ⟨nd, rfl⟩⟩; (try first | exact ⟨rfl, _, World.drewN_drewN _ _ _⟩ | exact ⟨rfl, _, Eq.trans (World.drewN_drewN _ _ _) (congrArg (World.drewN _) (Nat.add_assoc _ _ _))⟩)) | (go_at_call 69; (with_reducible refine (impl_isVal.calls ((rd_T58 l0 x10_1).f1) true _ A8.out).mono ?_); rintro e w' ⟨rfl, ⟨nd, rfl⟩⟩; (try first | exact ⟨rfl, _, World.drewN_drewN _ _ _⟩ | exact ⟨rfl, _, Eq.trans (World.drewN_drewN _ _ _) (congrArg (World.drewN _) (Nat.add_assoc _ _ _))⟩); have p640005 : 0 ≤ ((ji11) : Int) := of_decide_eq_true (by first | (with_reducible assumption) | assumption); have q640005 : (ji11) < (l0.length : Int) := of_decide_eq_true (by first | (with_reducible assumption) | assumption); obtain ⟨ad640005, e640005, hx640005_0, hx640005_1⟩ := at_T58 HR0.out (ji11) p640005 q640005; obtain rfl : ad640001 = ad640005 := (by injection e640005); have hn640005_0 : ad640001.block ≠ gb640002 := Nat.ne_of_lt (Nat.lt_of_lt_of_le (by have := World.block_lt_of_cell? _ _ hx640005_0; first | rwa [add_block] at this | exact this) GW640002.out); have hn640005_1 : ad640001.block ≠ gb640002 := Nat.ne_of_lt (Nat.lt_of_lt_of_le (by have := World.block_lt_of_cell? _ _ hx640005_0; first | rwa [add_block] at this | exact this) GW640002.out); replace hx640005_0 := (HB.out.cell (World.block_lt_of_cell? w _ hx640005_0)).trans hx640005_0; replace hx640005_1 := (HB.out.cell (World.block_lt_of_cell? w _ hx640005_1)).trans hx640005_1; replace hx640005_0 := (cell_far (p := ⟨gb640002, 0, none⟩) (by first | (rw [add_block]; exact hn640005_0) | (show (Addr.add _ _).block ≠ _; rw [add_block]; exact hn640005_0) | exact hn640005_0) (.int .i64 ((rd_T58 l0 x10_1).f0))).trans hx640005_0; replace hx640005_1 := (cell_far (p := ⟨gb640002, 0, none⟩) (by first | (rw [add_block]; exact hn640005_0) | (show (Addr.add _ _).block ≠ _; rw [add_block]; exact hn640005_0) | exact hn640005_0) (.int .i64 ((rd_T58 l0 x10_1).f0))).trans hx640005_1; replace hx640005_0 := (cell_far (p := ⟨gb640002, 1, none⟩) (by first | (rw [add_block]; exact hn640005_1) | (show (Addr.add _ _).block ≠ _; rw [add_block]; exact hn640005_1) | exact hn640005_1) (.int .i64 ((rd_T58 l0 x10_1).f1))).trans hx640005_0; replace hx640005_1 := (cell_far (p := ⟨gb640002, 1, none⟩) (by first | (rw [add_block]; exact hn640005_1) | (show (Addr.add _ _).block ≠ _; rw [add_block]; exact hn640005_1) | exact hn640005_1) (.int .i64 ((rd_T58 l0 x10_1).f1))).trans hx640005_1; (try have hy640005_0 := fun (n_ : Nat) => (show ((((w15.drewN n_).setCell ⟨gb640002, 0, none⟩ (.int .i64 ((rd_T58 l0 x10_1).f0))).setCell ⟨gb640002, 1, none⟩ (.int .i64 ((rd_T58 l0 x10_1).f1)))).cell? _ = some _ from hx640005_0)); (try have hy640005_1 := fun (n_ : Nat) => (show ((((w15.drewN n_).setCell ⟨gb640002, 0, none⟩ (.int .i64 ((rd_T58 l0 x10_1).f0))).setCell ⟨gb640002, 1, none⟩ (.int .i64 ((rd_T58 l0 x10_1).f1)))).cell? _ = some _ from hx640005_1)); clear hn640005_0; clear hn640005_1; replace p640005 := eq_true p640005; replace q640005 := eq_true q640005)); try go_wp2_with (first | ((with_reducible refine gate_dst (N := 4) rfl ?_); refine box_event ?hg (N := 4) ?hd (cs := #[.int .i64 0, .int .i64 0]) (t := 58) ?hr ?_; (case hd => rfl); (case hg => rfl); (case hr => first | (go_simp; done) | (go_simp; rfl)); intro gb640002 hg w15 hbox hb; have n0_ := Aside0.mk (below_step (by repeat (first | (with_reducible first | exact HB.out | apply below_alloc | apply pw_below_drewN | apply below_drew1) | exact HB.out)) hb); have n1_ := Aside0.mk (hbox); have n2_ := Aside0.mk ((by rw [hg]; exact (below_size (by repeat (first | (with_reducible first | exact HB.out | apply below_alloc | apply pw_below_drewN | apply below_drew1) | exact HB.out))) : w.heap.size ≤ gb640002)); have n3_ := Aside0.mk ((by rw [hg]; exact (below_size (by repeat (first | (with_reducible first | exact HB.out | apply below_alloc | apply pw_below_drewN | apply below_drew1) | exact HB.out))) : w.heap.size ≤ gb640002)); clear HB; have HB := n0_; have BK640002 := n1_; have GW640002 := n2_; have GE640002 := n3_; clear n0_ n1_ n2_ n3_; clear hb hbox hg; have hcz16_0 : w15.cell? ⟨gb640002, 0, none⟩ = some (.int .i64 0) := (blk_cell BK640002.out 0).trans rfl; have hcz16_1 : w15.cell? ⟨gb640002, 1, none⟩ = some (.int .i64 0) := (blk_cell BK640002.out 1).trans rfl; have hfz16_0 := blk_frozen BK640002.out 0; have hfz16_1 := blk_frozen BK640002.out 1) | (go_at_call 45; (with_reducible refine (impl_isKey.calls ((rd_T58 l0 x10_1).f0) true _ A6.out).mono ?_); rintro e w' ⟨rfl, ⟨nd, rfl⟩⟩; (try first | exact ⟨rfl, _, World.drewN_drewN _ _ _⟩ | exact ⟨rfl, _, Eq.trans (World.drewN_drewN _ _ _) (congrArg (World.drewN _) (Nat.add_assoc _ _ _))⟩)) | (go_at_call 69; (with_reducible refine (impl_isVal.calls ((rd_T58 l0 x10_1).f1) true _ A8.out).mono ?_); rintro e w' ⟨rfl, ⟨nd, rfl⟩⟩; (try first | exact ⟨rfl, _, World.drewN_drewN _ _ _⟩ | exact ⟨rfl, _, Eq.trans (World.drewN_drewN _ _ _) (congrArg (World.drewN _) (Nat.add_assoc _ _ _))⟩); have p640005 : 0 ≤ ((ji11) : Int) := of_decide_eq_true (by first | (with_reducible assumption) | assumption); have q640005 : (ji11) < (l0.length : Int) := of_decide_eq_true (by first | (with_reducible assumption) | assumption); obtain ⟨ad640005, e640005, hx640005_0, hx640005_1⟩ := at_T58 HR0.out (ji11) p640005 q640005; obtain rfl : ad640001 = ad640005 := (by injection e640005); have hn640005_0 : ad640001.block ≠ gb640002 := Nat.ne_of_lt (Nat.lt_of_lt_of_le (by have := World.block_lt_of_cell? _ _ hx640005_0; first | rwa [add_block] at this | exact this) GW640002.out); have hn640005_1 : ad640001.block ≠ gb640002 := Nat.ne_of_lt (Nat.lt_of_lt_of_le (by have := World.block_lt_of_cell? _ _ hx640005_0; first | rwa [add_block] at this | exact this) GW640002.out); replace hx640005_0 := (HB.out.cell (World.block_lt_of_cell? w _ hx640005_0)).trans hx640005_0; replace hx640005_1 := (HB.out.cell (World.block_lt_of_cell? w _ hx640005_1)).trans hx640005_1; replace hx640005_0 := (cell_far (p := ⟨gb640002, 0, none⟩) (by first | (rw [add_block]; exact hn640005_0) | (show (Addr.add _ _).block ≠ _; rw [add_block]; exact hn640005_0) | exact hn640005_0) (.int .i64 ((rd_T58 l0 x10_1).f0))).trans hx640005_0; replace hx640005_1 := (cell_far (p := ⟨gb640002, 0, none⟩) (by first | (rw [add_block]; exact hn640005_0) | (show (Addr.add _ _).block ≠ _; rw [add_block]; exact hn640005_0) | exact hn640005_0) (.int .i64 ((rd_T58 l0 x10_1).f0))).trans hx640005_1; replace hx640005_0 := (cell_far (p := ⟨gb640002, 1, none⟩) (by first | (rw [add_block]; exact hn640005_1) | (show (Addr.add _ _).block ≠ _; rw [add_block]; exact hn640005_1) | exact hn640005_1) (.int .i64 ((rd_T58 l0 x10_1).f1))).trans hx640005_0; replace hx640005_1 := (cell_far (p := ⟨gb640002, 1, none⟩) (by first | (rw [add_block]; exact hn640005_1) | (show (Addr.add _ _).block ≠ _; rw [add_block]; exact hn640005_1) | exact hn640005_1) (.int .i64 ((rd_T58 l0 x10_1).f1))).trans hx640005_1; (try have hy640005_0 := fun (n_ : Nat) => (show ((((w15.drewN n_).setCell ⟨gb640002, 0, none⟩ (.int .i64 ((rd_T58 l0 x10_1).f0))).setCell ⟨gb640002, 1, none⟩ (.int .i64 ((rd_T58 l0 x10_1).f1)))).cell? _ = some _ from hx640005_0)); (try have hy640005_1 := fun (n_ : Nat) => (show ((((w15.drewN n_).setCell ⟨gb640002, 0, none⟩ (.int .i64 ((rd_T58 l0 x10_1).f0))).setCell ⟨gb640002, 1, none⟩ (.int .i64 ((rd_T58 l0 x10_1).f1)))).cell? _ = some _ from hx640005_1)); clear hn640005_0; clear hn640005_1; replace p640005 := eq_true p640005; replace q640005 := eq_true q640005)))
                          go_ret
                          exact ⟨by first | rfl | (simp [errW_none, errW_some] <;> rfl) | (simp only [← hji11]; first | rfl | (simp [errW_none, errW_some] <;> rfl)) | (simp [*, errW_none, errW_some] <;> rfl), by repeat (first | (with_reducible first | exact HB.out | apply below_alloc | apply pw_below_drewN | apply below_drew1 | refine below_set ?_ GE640002.out) | exact HB.out)⟩
                        · rw [if_neg c14] at H
                          have c14b0 : decide (((rd_T58 l0 x10_1).f0) ≤ ((rd_T58 l0 (ji11)).f0)) = false := decide_eq_false c14
                          clear c14
                          have H' := Aside0.mk H
                          clear H
                          have p640001 : 0 ≤ (x10_1 : Int) := of_decide_eq_true (by first | (with_reducible assumption) | assumption)
                          have q640001 : x10_1 < (l0.length : Int) := of_decide_eq_true (by first | (with_reducible assumption) | assumption)
                          obtain ⟨ad640001, e640001, hx640001_0, hx640001_1⟩ := at_T58 HR0.out x10_1 p640001 q640001
                          cases e640001
                          replace hx640001_0 := (HB.out.cell (World.block_lt_of_cell? w _ hx640001_0)).trans hx640001_0
                          replace hx640001_1 := (HB.out.cell (World.block_lt_of_cell? w _ hx640001_1)).trans hx640001_1
                          replace p640001 := eq_true p640001
                          replace q640001 := eq_true q640001
                          go_wp2_with (first | ((with_reducible refine gate_dst (N := 4) rfl ?_); refine box_event ?hg (N := 4) ?hd (cs := #[.int .i64 0, .int .i64 0]) (t := 58) ?hr ?_; (case hd => rfl); (case hg => rfl); (case hr => first | (go_simp; done) | (go_simp; rfl)); intro gb640002 hg w17 hbox hb; have n0_ := Aside0.mk (below_step (by repeat (first | (with_reducible first | exact HB.out | apply below_alloc | apply pw_below_drewN | apply below_drew1) | exact HB.out)) hb); have n1_ := Aside0.mk (hbox); have n2_ := Aside0.mk ((by rw [hg]; exact (below_size (by repeat (first | (with_reducible first | exact HB.out | apply below_alloc | apply pw_below_drewN | apply below_drew1) | exact HB.out))) : w.heap.size ≤ gb640002)); have n3_ := Aside0.mk ((by rw [hg]; exact (below_size (by repeat (first | (with_reducible first | exact HB.out | apply below_alloc | apply pw_below_drewN | apply below_drew1) | exact HB.out))) : w.heap.size ≤ gb640002)); clear HB; have HB := n0_; have BK640002 := n1_; have GW640002 := n2_; have GE640002 := n3_; clear n0_ n1_ n2_ n3_; clear hb hbox hg; have hcz18_0 : w17.cell? ⟨gb640002, 0, none⟩ = some (.int .i64 0) := (blk_cell BK640002.out 0).trans rfl; have hcz18_1 : w17.cell? ⟨gb640002, 1, none⟩ = some (.int .i64 0) := (blk_cell BK640002.out 1).trans rfl; have hfz18_0 := blk_frozen BK640002.out 0; have hfz18_1 := blk_frozen BK640002.out 1) | (go_at_call 45; (with_reducible refine (impl_isKey.calls ((rd_T58 l0 x10_1).f0) true _ A6.out).mono ?_); rintro e w' ⟨rfl, ⟨nd, rfl⟩⟩; (try first | exact ⟨rfl, _, World.drewN_drewN _ _ _⟩ | exact ⟨rfl, _, Eq.trans (World.drewN_drewN _ _ _) (congrArg (World.drewN _) (Nat.add_assoc _ _ _))⟩)) | (go_at_call 69; (with_reducible refine (impl_isVal.calls ((rd_T58 l0 x10_1).f1) true _ A8.out).mono ?_); rintro e w' ⟨rfl, ⟨nd, rfl⟩⟩; (try first | exact ⟨rfl, _, World.drewN_drewN _ _ _⟩ | exact ⟨rfl, _, Eq.trans (World.drewN_drewN _ _ _) (congrArg (World.drewN _) (Nat.add_assoc _ _ _))⟩); have p640005 : 0 ≤ ((ji11) : Int) := of_decide_eq_true (by first | (with_reducible assumption) | assumption); have q640005 : (ji11) < (l0.length : Int) := of_decide_eq_true (by first | (with_reducible assumption) | assumption); obtain ⟨ad640005, e640005, hx640005_0, hx640005_1⟩ := at_T58 HR0.out (ji11) p640005 q640005; obtain rfl : ad640001 = ad640005 := (by injection e640005); have hn640005_0 : ad640001.block ≠ gb640002 := Nat.ne_of_lt (Nat.lt_of_lt_of_le (by have := World.block_lt_of_cell? _ _ hx640005_0; first | rwa [add_block] at this | exact this) GW640002.out); have hn640005_1 : ad640001.block ≠ gb640002 := Nat.ne_of_lt (Nat.lt_of_lt_of_le (by have := World.block_lt_of_cell? _ _ hx640005_0; first | rwa [add_block] at this | exact this) GW640002.out); replace hx640005_0 := (HB.out.cell (World.block_lt_of_cell? w _ hx640005_0)).trans hx640005_0; replace hx640005_1 := (HB.out.cell (World.block_lt_of_cell? w _ hx640005_1)).trans hx640005_1; replace hx640005_0 := (cell_far (p := ⟨gb640002, 0, none⟩) (by first | (rw [add_block]; exact hn640005_0) | (show (Addr.add _ _).block ≠ _; rw [add_block]; exact hn640005_0) | exact hn640005_0) (.int .i64 ((rd_T58 l0 x10_1).f0))).trans hx640005_0; replace hx640005_1 := (cell_far (p := ⟨gb640002, 0, none⟩) (by first | (rw [add_block]; exact hn640005_0) | (show (Addr.add _ _).block ≠ _; rw [add_block]; exact hn640005_0) | exact hn640005_0) (.int .i64 ((rd_T58 l0 x10_1).f0))).trans hx640005_1; replace hx640005_0 := (cell_far (p := ⟨gb640002, 1, none⟩) (by first | (rw [add_block]; exact hn640005_1) | (show (Addr.add _ _).block ≠ _; rw [add_block]; exact hn640005_1) | exact hn640005_1) (.int .i64 ((rd_T58 l0 x10_1).f1))).trans hx640005_0; replace hx640005_1 := (cell_far (p := ⟨gb640002, 1, none⟩) (by first | (rw [add_block]; exact hn640005_1) | (show (Addr.add _ _).block ≠ _; rw [add_block]; exact hn640005_1) | exact hn640005_1) (.int .i64 ((rd_T58 l0 x10_1).f1))).trans hx640005_1; (try have hy640005_0 := fun (n_ : Nat) => (show ((((w17.drewN n_).setCell ⟨gb640002, 0, none⟩ (.int .i64 ((rd_T58 l0 x10_1).f0))).setCell ⟨gb640002, 1, none⟩ (.int .i64 ((rd_T58 l0 x10_1).f1)))).cell? _ = some _ from hx640005_0)); (try have hy640005_1 := fun (n_ : Nat) => (show ((((w17.drewN n_).setCell ⟨gb640002, 0, none⟩ (.int .i64 ((rd_T58 l0 x10_1).f0))).setCell ⟨gb640002, 1, none⟩ (.int .i64 ((rd_T58 l0 x10_1).f1)))).cell? _ = some _ from hx640005_1)); clear hn640005_0; clear hn640005_1; replace p640005 := eq_true p640005; replace q640005 := eq_true q640005))
                          repeat (go_quiet (first | ((with_reducible refine gate_dst (N := 4) rfl ?_); refine box_event ?hg (N := 4) ?hd (cs := #[.int .i64 0, .int .i64 0]) (t := 58) ?hr ?_; (case hd => rfl); (case hg => rfl); (case hr => first | (go_simp; done) | (go_simp; rfl)); intro gb640002 hg w17 hbox hb; have n0_ := Aside0.mk (below_step (by repeat (first | (with_reducible first | exact HB.out | apply below_alloc | apply pw_below_drewN | apply below_drew1) | exact HB.out)) hb); have n1_ := Aside0.mk (hbox); have n2_ := Aside0.mk ((by rw [hg]; exact (below_size (by repeat (first | (with_reducible first | exact HB.out | apply below_alloc | apply pw_below_drewN | apply below_drew1) | exact HB.out))) : w.heap.size ≤ gb640002)); have n3_ := Aside0.mk ((by rw [hg]; exact (below_size (by repeat (first | (with_reducible first | exact HB.out | apply below_alloc | apply pw_below_drewN | apply below_drew1) | exact HB.out))) : w.heap.size ≤ gb640002)); clear HB; have HB := n0_; have BK640002 := n1_; have GW640002 := n2_; have GE640002 := n3_; clear n0_ n1_ n2_ n3_; clear hb hbox hg; have hcz18_0 : w17.cell? ⟨gb640002, 0, none⟩ = some (.int .i64 0) := (blk_cell BK640002.out 0).trans rfl; have hcz18_1 : w17.cell? ⟨gb640002, 1, none⟩ = some (.int .i64 0) := (blk_cell BK640002.out 1).trans rfl; have hfz18_0 := blk_frozen BK640002.out 0; have hfz18_1 := blk_frozen BK640002.out 1) | (go_at_call 45; (with_reducible refine (impl_isKey.calls ((rd_T58 l0 x10_1).f0) true _ A6.out).mono ?_); rintro e w' ⟨rfl, ⟨nd, rfl⟩⟩; (try first | exact ⟨rfl, _, World.drewN_drewN _ _ _⟩ | exact ⟨rfl, _, Eq.trans (World.drewN_drewN _ _ _) (congrArg (World.drewN _) (Nat.add_assoc _ _ _))⟩)) | (go_at_call 69; (with_reducible refine (impl_isVal.calls ((rd_T58 l0 x10_1).f1) true _ A8.out).mono ?_); rintro e w' ⟨rfl, ⟨nd, rfl⟩⟩; (try first | exact ⟨rfl, _, World.drewN_drewN _ _ _⟩ | exact ⟨rfl, _, Eq.trans (World.drewN_drewN _ _ _) (congrArg (World.drewN _) (Nat.add_assoc _ _ _))⟩); have p640005 : 0 ≤ ((ji11) : Int) := of_decide_eq_true (by first | (with_reducible assumption) | assumption); have q640005 : (ji11) < (l0.length : Int) := of_decide_eq_true (by first | (with_reducible assumption) | assumption); obtain ⟨ad640005, e640005, hx640005_0, hx640005_1⟩ := at_T58 HR0.out (ji11) p640005 q640005; obtain rfl : ad640001 = ad640005 := (by injection e640005); have hn640005_0 : ad640001.block ≠ gb640002 := Nat.ne_of_lt (Nat.lt_of_lt_of_le (by have := World.block_lt_of_cell? _ _ hx640005_0; first | rwa [add_block] at this | exact this) GW640002.out); have hn640005_1 : ad640001.block ≠ gb640002 := Nat.ne_of_lt (Nat.lt_of_lt_of_le (by have := World.block_lt_of_cell? _ _ hx640005_0; first | rwa [add_block] at this | exact this) GW640002.out); replace hx640005_0 := (HB.out.cell (World.block_lt_of_cell? w _ hx640005_0)).trans hx640005_0; replace hx640005_1 := (HB.out.cell (World.block_lt_of_cell? w _ hx640005_1)).trans hx640005_1; replace hx640005_0 := (cell_far (p := ⟨gb640002, 0, none⟩) (by first | (rw [add_block]; exact hn640005_0) | (show (Addr.add _ _).block ≠ _; rw [add_block]; exact hn640005_0) | exact hn640005_0) (.int .i64 ((rd_T58 l0 x10_1).f0))).trans hx640005_0; replace hx640005_1 := (cell_far (p := ⟨gb640002, 0, none⟩) (by first | (rw [add_block]; exact hn640005_0) | (show (Addr.add _ _).block ≠ _; rw [add_block]; exact hn640005_0) | exact hn640005_0) (.int .i64 ((rd_T58 l0 x10_1).f0))).trans hx640005_1; replace hx640005_0 := (cell_far (p := ⟨gb640002, 1, none⟩) (by first | (rw [add_block]; exact hn640005_1) | (show (Addr.add _ _).block ≠ _; rw [add_block]; exact hn640005_1) | exact hn640005_1) (.int .i64 ((rd_T58 l0 x10_1).f1))).trans hx640005_0; replace hx640005_1 := (cell_far (p := ⟨gb640002, 1, none⟩) (by first | (rw [add_block]; exact hn640005_1) | (show (Addr.add _ _).block ≠ _; rw [add_block]; exact hn640005_1) | exact hn640005_1) (.int .i64 ((rd_T58 l0 x10_1).f1))).trans hx640005_1; (try have hy640005_0 := fun (n_ : Nat) => (show ((((w17.drewN n_).setCell ⟨gb640002, 0, none⟩ (.int .i64 ((rd_T58 l0 x10_1).f0))).setCell ⟨gb640002, 1, none⟩ (.int .i64 ((rd_T58 l0 x10_1).f1)))).cell? _ = some _ from hx640005_0)); (try have hy640005_1 := fun (n_ : Nat) => (show ((((w17.drewN n_).setCell ⟨gb640002, 0, none⟩ (.int .i64 ((rd_T58 l0 x10_1).f0))).setCell ⟨gb640002, 1, none⟩ (.int .i64 ((rd_T58 l0 x10_1).f1)))).cell? _ = some _ from hx640005_1)); clear hn640005_0; clear hn640005_1; replace p640005 := eq_true p640005; replace q640005 := eq_true q640005)); try go_wp2_with (first | ((with_reducible refine gate_dst (N := 4) rfl ?_); refine box_event ?hg (N := 4) ?hd (cs := #[.int .i64 0, .int .i64 0]) (t := 58) ?hr ?_; (case hd => rfl); (case hg => rfl); (case hr => first | (go_simp; done) | (go_simp; rfl)); intro gb640002 hg w17 hbox hb; have n0_ := Aside0.mk (below_step (by repeat (first | (with_reducible first | exact HB.out | apply below_alloc | apply pw_below_drewN | apply below_drew1) | exact HB.out)) hb); have n1_ := Aside0.mk (hbox); have n2_ := Aside0.mk ((by rw [hg]; exact (below_size (by repeat (first | (with_reducible first | exact HB.out | apply below_alloc | apply pw_below_drewN | apply below_drew1) | exact HB.out))) : w.heap.size ≤ gb640002)); have n3_ := Aside0.mk ((by rw [hg]; exact (below_size (by repeat (first | (with_reducible first | exact HB.out | apply below_alloc | apply pw_below_drewN | apply below_drew1) | exact HB.out))) : w.heap.size ≤ gb640002)); clear HB; have HB := n0_; have BK640002 := n1_; have GW640002 := n2_; have GE640002 := n3_; clear n0_ n1_ n2_ n3_; clear hb hbox hg; have hcz18_0 : w17.cell? ⟨gb640002, 0, none⟩ = some (.int .i64 0) := (blk_cell BK640002.out 0).trans rfl; have hcz18_1 : w17.cell? ⟨gb640002, 1, none⟩ = some (.int .i64 0) := (blk_cell BK640002.out 1).trans rfl; have hfz18_0 := blk_frozen BK640002.out 0; have hfz18_1 := blk_frozen BK640002.out 1) | (go_at_call 45; (with_reducible refine (impl_isKey.calls ((rd_T58 l0 x10_1).f0) true _ A6.out).mono ?_); rintro e w' ⟨rfl, ⟨nd, rfl⟩⟩; (try first | exact ⟨rfl, _, World.drewN_drewN _ _ _⟩ | exact ⟨rfl, _, Eq.trans (World.drewN_drewN _ _ _) (congrArg (World.drewN _) (Nat.add_assoc _ _ _))⟩)) | (go_at_call 69; (with_reducible refine (impl_isVal.calls ((rd_T58 l0 x10_1).f1) true _ A8.out).mono ?_); rintro e w' ⟨rfl, ⟨nd, rfl⟩⟩; (try first | exact ⟨rfl, _, World.drewN_drewN _ _ _⟩ | exact ⟨rfl, _, Eq.trans (World.drewN_drewN _ _ _) (congrArg (World.drewN _) (Nat.add_assoc _ _ _))⟩); have p640005 : 0 ≤ ((ji11) : Int) := of_decide_eq_true (by first | (with_reducible assumption) | assumption); have q640005 : (ji11) < (l0.length : Int) := of_decide_eq_true (by first | (with_reducible assumption) | assumption); obtain ⟨ad640005, e640005, hx640005_0, hx640005_1⟩ := at_T58 HR0.out (ji11) p640005 q640005; obtain rfl : ad640001 = ad640005 := (by injection e640005); have hn640005_0 : ad640001.block ≠ gb640002 := Nat.ne_of_lt (Nat.lt_of_lt_of_le (by have := World.block_lt_of_cell? _ _ hx640005_0; first | rwa [add_block] at this | exact this) GW640002.out); have hn640005_1 : ad640001.block ≠ gb640002 := Nat.ne_of_lt (Nat.lt_of_lt_of_le (by have := World.block_lt_of_cell? _ _ hx640005_0; first | rwa [add_block] at this | exact this) GW640002.out); replace hx640005_0 := (HB.out.cell (World.block_lt_of_cell? w _ hx640005_0)).trans hx640005_0; replace hx640005_1 := (HB.out.cell (World.block_lt_of_cell? w _ hx640005_1)).trans hx640005_1; replace hx640005_0 := (cell_far (p := ⟨gb640002, 0, none⟩) (by first | (rw [add_block]; exact hn640005_0) | (show (Addr.add _ _).block ≠ _; rw [add_block]; exact hn640005_0) | exact hn640005_0) (.int .i64 ((rd_T58 l0 x10_1).f0))).trans hx640005_0; replace hx640005_1 := (cell_far (p := ⟨gb640002, 0, none⟩) (by first | (rw [add_block]; exact hn640005_0) | (show (Addr.add _ _).block ≠ _; rw [add_block]; exact hn640005_0) | exact hn640005_0) (.int .i64 ((rd_T58 l0 x10_1).f0))).trans hx640005_1; replace hx640005_0 := (cell_far (p := ⟨gb640002, 1, none⟩) (by first | (rw [add_block]; exact hn640005_1) | (show (Addr.add _ _).block ≠ _; rw [add_block]; exact hn640005_1) | exact hn640005_1) (.int .i64 ((rd_T58 l0 x10_1).f1))).trans hx640005_0; replace hx640005_1 := (cell_far (p := ⟨gb640002, 1, none⟩) (by first | (rw [add_block]; exact hn640005_1) | (show (Addr.add _ _).block ≠ _; rw [add_block]; exact hn640005_1) | exact hn640005_1) (.int .i64 ((rd_T58 l0 x10_1).f1))).trans hx640005_1; (try have hy640005_0 := fun (n_ : Nat) => (show ((((w17.drewN n_).setCell ⟨gb640002, 0, none⟩ (.int .i64 ((rd_T58 l0 x10_1).f0))).setCell ⟨gb640002, 1, none⟩ (.int .i64 ((rd_T58 l0 x10_1).f1)))).cell? _ = some _ from hx640005_0)); (try have hy640005_1 := fun (n_ : Nat) => (show ((((w17.drewN n_).setCell ⟨gb640002, 0, none⟩ (.int .i64 ((rd_T58 l0 x10_1).f0))).setCell ⟨gb640002, 1, none⟩ (.int .i64 ((rd_T58 l0 x10_1).f1)))).cell? _ = some _ from hx640005_1)); clear hn640005_0; clear hn640005_1; replace p640005 := eq_true p640005; replace q640005 := eq_true q640005)))
                          go_roundg k1
                          case measure => have := HK1.out; omega
                          case rel => exact ⟨(wrap64 (x10_1 + 1)), (by first | rfl | (simp; done) | (simp [*]; done)), H', ⟨by have := HK1.out; omega⟩, ⟨by repeat (first | (with_reducible first | exact HB.out | apply below_alloc | apply pw_below_drewN | apply below_drew1 | refine below_set ?_ GE640002.out) | exact HB.out)⟩⟩
                      · rw [if_neg c13] at H
                        exact absurd H (by simp)
                    · rw [if_neg c12] at H
                      exact absurd H (by simp)
                  · rw [if_neg c10] at H
                    have c10b0 : decide (0 < x10_1) = false := decide_eq_false c10
                    clear c10
                    have H' := Aside0.mk H
                    clear H
                    have p640001 : 0 ≤ (x10_1 : Int) := of_decide_eq_true (by first | (with_reducible assumption) | assumption)
                    have q640001 : x10_1 < (l0.length : Int) := of_decide_eq_true (by first | (with_reducible assumption) | assumption)
                    obtain ⟨ad640001, e640001, hx640001_0, hx640001_1⟩ := at_T58 HR0.out x10_1 p640001 q640001
                    cases e640001
                    replace hx640001_0 := (HB.out.cell (World.block_lt_of_cell? w _ hx640001_0)).trans hx640001_0
                    replace hx640001_1 := (HB.out.cell (World.block_lt_of_cell? w _ hx640001_1)).trans hx640001_1
                    replace p640001 := eq_true p640001
                    replace q640001 := eq_true q640001
                    go_wp2_with (first | ((with_reducible refine gate_dst (N := 4) rfl ?_); refine box_event ?hg (N := 4) ?hd (cs := #[.int .i64 0, .int .i64 0]) (t := 58) ?hr ?_; (case hd => rfl); (case hg => rfl); (case hr => first | (go_simp; done) | (go_simp; rfl)); intro gb640002 hg w19 hbox hb; have n0_ := Aside0.mk (below_step (by repeat (first | (with_reducible first | exact HB.out | apply below_alloc | apply pw_below_drewN | apply below_drew1) | exact HB.out)) hb); have n1_ := Aside0.mk (hbox); have n2_ := Aside0.mk ((by rw [hg]; exact (below_size (by repeat (first | (with_reducible first | exact HB.out | apply below_alloc | apply pw_below_drewN | apply below_drew1) | exact HB.out))) : w.heap.size ≤ gb640002)); have n3_ := Aside0.mk ((by rw [hg]; exact (below_size (by repeat (first | (with_reducible first | exact HB.out | apply below_alloc | apply pw_below_drewN | apply below_drew1) | exact HB.out))) : w.heap.size ≤ gb640002)); clear HB; have HB := n0_; have BK640002 := n1_; have GW640002 := n2_; have GE640002 := n3_; clear n0_ n1_ n2_ n3_; clear hb hbox hg; have hcz20_0 : w19.cell? ⟨gb640002, 0, none⟩ = some (.int .i64 0) := (blk_cell BK640002.out 0).trans rfl; have hcz20_1 : w19.cell? ⟨gb640002, 1, none⟩ = some (.int .i64 0) := (blk_cell BK640002.out 1).trans rfl; have hfz20_0 := blk_frozen BK640002.out 0; have hfz20_1 := blk_frozen BK640002.out 1) | (go_at_call 45; (with_reducible refine (impl_isKey.calls ((rd_T58 l0 x10_1).f0) true _ A6.out).mono ?_); rintro e w' ⟨rfl, ⟨nd, rfl⟩⟩; (try first | exact ⟨rfl, _, World.drewN_drewN _ _ _⟩ | exact ⟨rfl, _, Eq.trans (World.drewN_drewN _ _ _) (congrArg (World.drewN _) (Nat.add_assoc _ _ _))⟩)) | (go_at_call 69; (with_reducible refine (impl_isVal.calls ((rd_T58 l0 x10_1).f1) true _ A8.out).mono ?_); rintro e w' ⟨rfl, ⟨nd, rfl⟩⟩; (try first | exact ⟨rfl, _, World.drewN_drewN _ _ _⟩ | exact ⟨rfl, _, Eq.trans (World.drewN_drewN _ _ _) (congrArg (World.drewN _) (Nat.add_assoc _ _ _))⟩)))
                    repeat (go_quiet (first | ((with_reducible refine gate_dst (N := 4) rfl ?_); refine box_event ?hg (N := 4) ?hd (cs := #[.int .i64 0, .int .i64 0]) (t := 58) ?hr ?_; (case hd => rfl); (case hg => rfl); (case hr => first | (go_simp; done) | (go_simp; rfl)); intro gb640002 hg w19 hbox hb; have n0_ := Aside0.mk (below_step (by repeat (first | (with_reducible first | exact HB.out | apply below_alloc | apply pw_below_drewN | apply below_drew1) | exact HB.out)) hb); have n1_ := Aside0.mk (hbox); have n2_ := Aside0.mk ((by rw [hg]; exact (below_size (by repeat (first | (with_reducible first | exact HB.out | apply below_alloc | apply pw_below_drewN | apply below_drew1) | exact HB.out))) : w.heap.size ≤ gb640002)); have n3_ := Aside0.mk ((by rw [hg]; exact (below_size (by repeat (first | (with_reducible first | exact HB.out | apply below_alloc | apply pw_below_drewN | apply below_drew1) | exact HB.out))) : w.heap.size ≤ gb640002)); clear HB; have HB := n0_; have BK640002 := n1_; have GW640002 := n2_; have GE640002 := n3_; clear n0_ n1_ n2_ n3_; clear hb hbox hg; have hcz20_0 : w19.cell? ⟨gb640002, 0, none⟩ = some (.int .i64 0) := (blk_cell BK640002.out 0).trans rfl; have hcz20_1 : w19.cell? ⟨gb640002, 1, none⟩ = some (.int .i64 0) := (blk_cell BK640002.out 1).trans rfl; have hfz20_0 := blk_frozen BK640002.out 0; have hfz20_1 := blk_frozen BK640002.out 1) | (go_at_call 45; (with_reducible refine (impl_isKey.calls ((rd_T58 l0 x10_1).f0) true _ A6.out).mono ?_); rintro e w' ⟨rfl, ⟨nd, rfl⟩⟩; (try first | exact ⟨rfl, _, World.drewN_drewN _ _ _⟩ | exact ⟨rfl, _, Eq.trans (World.drewN_drewN _ _ _) (congrArg (World.drewN _) (Nat.add_assoc _ _ _))⟩)) | (go_at_call 69; (with_reducible refine (impl_isVal.calls ((rd_T58 l0 x10_1).f1) true _ A8.out).mono ?_); rintro e w' ⟨rfl, ⟨nd, rfl⟩⟩; (try first | exact ⟨rfl, _, World.drewN_drewN _ _ _⟩ | exact ⟨rfl, _, Eq.trans (World.drewN_drewN _ _ _) (congrArg (World.drewN _) (Nat.add_assoc _ _ _))⟩))); try go_wp2_with (first | ((with_reducible refine gate_dst (N := 4) rfl ?_); refine box_event ?hg (N := 4) ?hd (cs := #[.int .i64 0, .int .i64 0]) (t := 58) ?hr ?_; (case hd => rfl); (case hg => rfl); (case hr => first | (go_simp; done) | (go_simp; rfl)); intro gb640002 hg w19 hbox hb; have n0_ := Aside0.mk (below_step (by repeat (first | (with_reducible first | exact HB.out | apply below_alloc | apply pw_below_drewN | apply below_drew1) | exact HB.out)) hb); have n1_ := Aside0.mk (hbox); have n2_ := Aside0.mk ((by rw [hg]; exact (below_size (by repeat (first | (with_reducible first | exact HB.out | apply below_alloc | apply pw_below_drewN | apply below_drew1) | exact HB.out))) : w.heap.size ≤ gb640002)); have n3_ := Aside0.mk ((by rw [hg]; exact (below_size (by repeat (first | (with_reducible first | exact HB.out | apply below_alloc | apply pw_below_drewN | apply below_drew1) | exact HB.out))) : w.heap.size ≤ gb640002)); clear HB; have HB := n0_; have BK640002 := n1_; have GW640002 := n2_; have GE640002 := n3_; clear n0_ n1_ n2_ n3_; clear hb hbox hg; have hcz20_0 : w19.cell? ⟨gb640002, 0, none⟩ = some (.int .i64 0) := (blk_cell BK640002.out 0).trans rfl; have hcz20_1 : w19.cell? ⟨gb640002, 1, none⟩ = some (.int .i64 0) := (blk_cell BK640002.out 1).trans rfl; have hfz20_0 := blk_frozen BK640002.out 0; have hfz20_1 := blk_frozen BK640002.out 1) | (go_at_call 45; (with_reducible refine (impl_isKey.calls ((rd_T58 l0 x10_1).f0) true _ A6.out).mono ?_); rintro e w' ⟨rfl, ⟨nd, rfl⟩⟩; (try first | exact ⟨rfl, _, World.drewN_drewN _ _ _⟩ | exact ⟨rfl, _, Eq.trans (World.drewN_drewN _ _ _) (congrArg (World.drewN _) (Nat.add_assoc _ _ _))⟩)) | (go_at_call 69; (with_reducible refine (impl_isVal.calls ((rd_T58 l0 x10_1).f1) true _ A8.out).mono ?_); rintro e w' ⟨rfl, ⟨nd, rfl⟩⟩; (try first | exact ⟨rfl, _, World.drewN_drewN _ _ _⟩ | exact ⟨rfl, _, Eq.trans (World.drewN_drewN _ _ _) (congrArg (World.drewN _) (Nat.add_assoc _ _ _))⟩))))
                    go_roundg k1
                    case measure => have := HK1.out; omega
                    case rel => exact ⟨(wrap64 (x10_1 + 1)), (by first | rfl | (simp; done) | (simp [*]; done)), H', ⟨by have := HK1.out; omega⟩, ⟨by repeat (first | (with_reducible first | exact HB.out | apply below_alloc | apply pw_below_drewN | apply below_drew1 | refine below_set ?_ GE640002.out) | exact HB.out)⟩⟩
                · replace c9 := Bool.eq_false_iff.mpr c9
                  subst c9
                  have H1 : (some false) = some r := by rw [if_neg (show ¬ (false = true) by decide)] at H; exact H
                  clear H
                  have H := H1
                  clear H1
                  obtain rfl := Option.some.inj H
                  have p640001 : 0 ≤ (x10_1 : Int) := of_decide_eq_true (by first | (with_reducible assumption) | assumption)
                  have q640001 : x10_1 < (l0.length : Int) := of_decide_eq_true (by first | (with_reducible assumption) | assumption)
                  obtain ⟨ad640001, e640001, hx640001_0, hx640001_1⟩ := at_T58 HR0.out x10_1 p640001 q640001
                  cases e640001
                  replace hx640001_0 := (HB.out.cell (World.block_lt_of_cell? w _ hx640001_0)).trans hx640001_0
                  replace hx640001_1 := (HB.out.cell (World.block_lt_of_cell? w _ hx640001_1)).trans hx640001_1
                  replace p640001 := eq_true p640001
                  replace q640001 := eq_true q640001
                  go_wp2_with (first | ((with_reducible refine gate_dst (N := 4) rfl ?_); refine box_event ?hg (N := 4) ?hd (cs := #[.int .i64 0, .int .i64 0]) (t := 58) ?hr ?_; (case hd => rfl); (case hg => rfl); (case hr => first | (go_simp; done) | (go_simp; rfl)); intro gb640002 hg w21 hbox hb; have n0_ := Aside0.mk (below_step (by repeat (first | (with_reducible first | exact HB.out | apply below_alloc | apply pw_below_drewN | apply below_drew1) | exact HB.out)) hb); have n1_ := Aside0.mk (hbox); have n2_ := Aside0.mk ((by rw [hg]; exact (below_size (by repeat (first | (with_reducible first | exact HB.out | apply below_alloc | apply pw_below_drewN | apply below_drew1) | exact HB.out))) : w.heap.size ≤ gb640002)); have n3_ := Aside0.mk ((by rw [hg]; exact (below_size (by repeat (first | (with_reducible first | exact HB.out | apply below_alloc | apply pw_below_drewN | apply below_drew1) | exact HB.out))) : w.heap.size ≤ gb640002)); clear HB; have HB := n0_; have BK640002 := n1_; have GW640002 := n2_; have GE640002 := n3_; clear n0_ n1_ n2_ n3_; clear hb hbox hg; have hcz22_0 : w21.cell? ⟨gb640002, 0, none⟩ = some (.int .i64 0) := (blk_cell BK640002.out 0).trans rfl; have hcz22_1 : w21.cell? ⟨gb640002, 1, none⟩ = some (.int .i64 0) := (blk_cell BK640002.out 1).trans rfl; have hfz22_0 := blk_frozen BK640002.out 0; have hfz22_1 := blk_frozen BK640002.out 1) | (go_at_call 45; (with_reducible refine (impl_isKey.calls ((rd_T58 l0 x10_1).f0) true _ A6.out).mono ?_); rintro e w' ⟨rfl, ⟨nd, rfl⟩⟩; (try first | exact ⟨rfl, _, World.drewN_drewN _ _ _⟩ | exact ⟨rfl, _, Eq.trans (World.drewN_drewN _ _ _) (congrArg (World.drewN _) (Nat.add_assoc _ _ _))⟩)) | (go_at_call 69; (with_reducible refine (impl_isVal.calls ((rd_T58 l0 x10_1).f1) false _ A8.out).mono ?_); rintro e w' ⟨rfl, ⟨nd, rfl⟩⟩; (try first | exact ⟨rfl, _, World.drewN_drewN _ _ _⟩ | exact ⟨rfl, _, Eq.trans (World.drewN_drewN _ _ _) (congrArg (World.drewN _) (Nat.add_assoc _ _ _))⟩)))
                  repeat (go_quiet (first | ((with_reducible refine gate_dst (N := 4) rfl ?_); refine box_event ?hg (N := 4) ?hd (cs := #[.int .i64 0, .int .i64 0]) (t := 58) ?hr ?_; (case hd => rfl); (case hg => rfl); (case hr => first | (go_simp; done) | (go_simp; rfl)); intro gb640002 hg w21 hbox hb; have n0_ := Aside0.mk (below_step (by repeat (first | (with_reducible first | exact HB.out | apply below_alloc | apply pw_below_drewN | apply below_drew1) | exact HB.out)) hb); have n1_ := Aside0.mk (hbox); have n2_ := Aside0.mk ((by rw [hg]; exact (below_size (by repeat (first | (with_reducible first | exact HB.out | apply below_alloc | apply pw_below_drewN | apply below_drew1) | exact HB.out))) : w.heap.size ≤ gb640002)); have n3_ := Aside0.mk ((by rw [hg]; exact (below_size (by repeat (first | (with_reducible first | exact HB.out | apply below_alloc | apply pw_below_drewN | apply below_drew1) | exact HB.out))) : w.heap.size ≤ gb640002)); clear HB; have HB := n0_; have BK640002 := n1_; have GW640002 := n2_; have GE640002 := n3_; clear n0_ n1_ n2_ n3_; clear hb hbox hg; have hcz22_0 : w21.cell? ⟨gb640002, 0, none⟩ = some (.int .i64 0) := (blk_cell BK640002.out 0).trans rfl; have hcz22_1 : w21.cell? ⟨gb640002, 1, none⟩ = some (.int .i64 0) := (blk_cell BK640002.out 1).trans rfl; have hfz22_0 := blk_frozen BK640002.out 0; have hfz22_1 := blk_frozen BK640002.out 1) | (go_at_call 45; (with_reducible refine (impl_isKey.calls ((rd_T58 l0 x10_1).f0) true _ A6.out).mono ?_); rintro e w' ⟨rfl, ⟨nd, rfl⟩⟩; (try first | exact ⟨rfl, _, World.drewN_drewN _ _ _⟩ | exact ⟨rfl, _, Eq.trans (World.drewN_drewN _ _ _) (congrArg (World.drewN _) (Nat.add_assoc _ _ _))⟩)) | (go_at_call 69; (with_reducible refine (impl_isVal.calls ((rd_T58 l0 x10_1).f1) false _ A8.out).mono ?_); rintro e w' ⟨rfl, ⟨nd, rfl⟩⟩; (try first | exact ⟨rfl, _, World.drewN_drewN _ _ _⟩ | exact ⟨rfl, _, Eq.trans (World.drewN_drewN _ _ _) (congrArg (World.drewN _) (Nat.add_assoc _ _ _))⟩))); try go_wp2_with (first | ((with_reducible refine gate_dst (N := 4) rfl ?_); refine box_event ?hg (N := 4) ?hd (cs := #[.int .i64 0, .int .i64 0]) (t := 58) ?hr ?_; (case hd => rfl); (case hg => rfl); (case hr => first | (go_simp; done) | (go_simp; rfl)); intro gb640002 hg w21 hbox hb; have n0_ := Aside0.mk (below_step (by repeat (first | (with_reducible first | exact HB.out | apply below_alloc | apply pw_below_drewN | apply below_drew1) | exact HB.out)) hb); have n1_ := Aside0.mk (hbox); have n2_ := Aside0.mk ((by rw [hg]; exact (below_size (by repeat (first | (with_reducible first | exact HB.out | apply below_alloc | apply pw_below_drewN | apply below_drew1) | exact HB.out))) : w.heap.size ≤ gb640002)); have n3_ := Aside0.mk ((by rw [hg]; exact (below_size (by repeat (first | (with_reducible first | exact HB.out | apply below_alloc | apply pw_below_drewN | apply below_drew1) | exact HB.out))) : w.heap.size ≤ gb640002)); clear HB; have HB := n0_; have BK640002 := n1_; have GW640002 := n2_; have GE640002 := n3_; clear n0_ n1_ n2_ n3_; clear hb hbox hg; have hcz22_0 : w21.cell? ⟨gb640002, 0, none⟩ = some (.int .i64 0) := (blk_cell BK640002.out 0).trans rfl; have hcz22_1 : w21.cell? ⟨gb640002, 1, none⟩ = some (.int .i64 0) := (blk_cell BK640002.out 1).trans rfl; have hfz22_0 := blk_frozen BK640002.out 0; have hfz22_1 := blk_frozen BK640002.out 1) | (go_at_call 45; (with_reducible refine (impl_isKey.calls ((rd_T58 l0 x10_1).f0) true _ A6.out).mono ?_); rintro e w' ⟨rfl, ⟨nd, rfl⟩⟩; (try first | exact ⟨rfl, _, World.drewN_drewN _ _ _⟩ | exact ⟨rfl, _, Eq.trans (World.drewN_drewN _ _ _) (congrArg (World.drewN _) (Nat.add_assoc _ _ _))⟩)) | (go_at_call 69; (with_reducible refine (impl_isVal.calls ((rd_T58 l0 x10_1).f1) false _ A8.out).mono ?_); rintro e w' ⟨rfl, ⟨nd, rfl⟩⟩; (try first | exact ⟨rfl, _, World.drewN_drewN _ _ _⟩ | exact ⟨rfl, _, Eq.trans (World.drewN_drewN _ _ _) (congrArg (World.drewN _) (Nat.add_assoc _ _ _))⟩))))
                  go_ret
                  exact ⟨by first | rfl | (simp [errW_none, errW_some] <;> rfl) | (simp [*, errW_none, errW_some] <;> rfl), by repeat (first | (with_reducible first | exact HB.out | apply below_alloc | apply pw_below_drewN | apply below_drew1 | refine below_set ?_ GE640002.out) | exact HB.out)⟩
              · replace c7 := Bool.eq_false_iff.mpr c7
                subst c7
                have H1 : (some false) = some r := by rw [if_neg (show ¬ (false = true) by decide)] at H; exact H
                clear H
                have H := H1
                clear H1
                obtain rfl := Option.some.inj H
                have p640001 : 0 ≤ (x10_1 : Int) := of_decide_eq_true (by first | (with_reducible assumption) | assumption)
                have q640001 : x10_1 < (l0.length : Int) := of_decide_eq_true (by first | (with_reducible assumption) | assumption)
                obtain ⟨ad640001, e640001, hx640001_0, hx640001_1⟩ := at_T58 HR0.out x10_1 p640001 q640001
                cases e640001
                replace hx640001_0 := (HB.out.cell (World.block_lt_of_cell? w _ hx640001_0)).trans hx640001_0
                replace hx640001_1 := (HB.out.cell (World.block_lt_of_cell? w _ hx640001_1)).trans hx640001_1
                replace p640001 := eq_true p640001
                replace q640001 := eq_true q640001
                go_wp2_with (first | ((with_reducible refine gate_dst (N := 4) rfl ?_); refine box_event ?hg (N := 4) ?hd (cs := #[.int .i64 0, .int .i64 0]) (t := 58) ?hr ?_; (case hd => rfl); (case hg => rfl); (case hr => first | (go_simp; done) | (go_simp; rfl)); intro gb640002 hg w23 hbox hb; have n0_ := Aside0.mk (below_step (by repeat (first | (with_reducible first | exact HB.out | apply below_alloc | apply pw_below_drewN | apply below_drew1) | exact HB.out)) hb); have n1_ := Aside0.mk (hbox); have n2_ := Aside0.mk ((by rw [hg]; exact (below_size (by repeat (first | (with_reducible first | exact HB.out | apply below_alloc | apply pw_below_drewN | apply below_drew1) | exact HB.out))) : w.heap.size ≤ gb640002)); have n3_ := Aside0.mk ((by rw [hg]; exact (below_size (by repeat (first | (with_reducible first | exact HB.out | apply below_alloc | apply pw_below_drewN | apply below_drew1) | exact HB.out))) : w.heap.size ≤ gb640002)); clear HB; have HB := n0_; have BK640002 := n1_; have GW640002 := n2_; have GE640002 := n3_; clear n0_ n1_ n2_ n3_; clear hb hbox hg; have hcz24_0 : w23.cell? ⟨gb640002, 0, none⟩ = some (.int .i64 0) := (blk_cell BK640002.out 0).trans rfl; have hcz24_1 : w23.cell? ⟨gb640002, 1, none⟩ = some (.int .i64 0) := (blk_cell BK640002.out 1).trans rfl; have hfz24_0 := blk_frozen BK640002.out 0; have hfz24_1 := blk_frozen BK640002.out 1) | (go_at_call 45; (with_reducible refine (impl_isKey.calls ((rd_T58 l0 x10_1).f0) false _ A6.out).mono ?_); rintro e w' ⟨rfl, ⟨nd, rfl⟩⟩; (try first | exact ⟨rfl, _, World.drewN_drewN _ _ _⟩ | exact ⟨rfl, _, Eq.trans (World.drewN_drewN _ _ _) (congrArg (World.drewN _) (Nat.add_assoc _ _ _))⟩)))
                repeat (go_quiet (first | ((with_reducible refine gate_dst (N := 4) rfl ?_); refine box_event ?hg (N := 4) ?hd (cs := #[.int .i64 0, .int .i64 0]) (t := 58) ?hr ?_; (case hd => rfl); (case hg => rfl); (case hr => first | (go_simp; done) | (go_simp; rfl)); intro gb640002 hg w23 hbox hb; have n0_ := Aside0.mk (below_step (by repeat (first | (with_reducible first | exact HB.out | apply below_alloc | apply pw_below_drewN | apply below_drew1) | exact HB.out)) hb); have n1_ := Aside0.mk (hbox); have n2_ := Aside0.mk ((by rw [hg]; exact (below_size (by repeat (first | (with_reducible first | exact HB.out | apply below_alloc | apply pw_below_drewN | apply below_drew1) | exact HB.out))) : w.heap.size ≤ gb640002)); have n3_ := Aside0.mk ((by rw [hg]; exact (below_size (by repeat (first | (with_reducible first | exact HB.out | apply below_alloc | apply pw_below_drewN | apply below_drew1) | exact HB.out))) : w.heap.size ≤ gb640002)); clear HB; have HB := n0_; have BK640002 := n1_; have GW640002 := n2_; have GE640002 := n3_; clear n0_ n1_ n2_ n3_; clear hb hbox hg; have hcz24_0 : w23.cell? ⟨gb640002, 0, none⟩ = some (.int .i64 0) := (blk_cell BK640002.out 0).trans rfl; have hcz24_1 : w23.cell? ⟨gb640002, 1, none⟩ = some (.int .i64 0) := (blk_cell BK640002.out 1).trans rfl; have hfz24_0 := blk_frozen BK640002.out 0; have hfz24_1 := blk_frozen BK640002.out 1) | (go_at_call 45; (with_reducible refine (impl_isKey.calls ((rd_T58 l0 x10_1).f0) false _ A6.out).mono ?_); rintro e w' ⟨rfl, ⟨nd, rfl⟩⟩; (try first | exact ⟨rfl, _, World.drewN_drewN _ _ _⟩ | exact ⟨rfl, _, Eq.trans (World.drewN_drewN _ _ _) (congrArg (World.drewN _) (Nat.add_assoc _ _ _))⟩))); try go_wp2_with (first | ((with_reducible refine gate_dst (N := 4) rfl ?_); refine box_event ?hg (N := 4) ?hd (cs := #[.int .i64 0, .int .i64 0]) (t := 58) ?hr ?_; (case hd => rfl); (case hg => rfl); (case hr => first | (go_simp; done) | (go_simp; rfl)); intro gb640002 hg w23 hbox hb; have n0_ := Aside0.mk (below_step (by repeat (first | (with_reducible first | exact HB.out | apply below_alloc | apply pw_below_drewN | apply below_drew1) | exact HB.out)) hb); have n1_ := Aside0.mk (hbox); have n2_ := Aside0.mk ((by rw [hg]; exact (below_size (by repeat (first | (with_reducible first | exact HB.out | apply below_alloc | apply pw_below_drewN | apply below_drew1) | exact HB.out))) : w.heap.size ≤ gb640002)); have n3_ := Aside0.mk ((by rw [hg]; exact (below_size (by repeat (first | (with_reducible first | exact HB.out | apply below_alloc | apply pw_below_drewN | apply below_drew1) | exact HB.out))) : w.heap.size ≤ gb640002)); clear HB; have HB := n0_; have BK640002 := n1_; have GW640002 := n2_; have GE640002 := n3_; clear n0_ n1_ n2_ n3_; clear hb hbox hg; have hcz24_0 : w23.cell? ⟨gb640002, 0, none⟩ = some (.int .i64 0) := (blk_cell BK640002.out 0).trans rfl; have hcz24_1 : w23.cell? ⟨gb640002, 1, none⟩ = some (.int .i64 0) := (blk_cell BK640002.out 1).trans rfl; have hfz24_0 := blk_frozen BK640002.out 0; have hfz24_1 := blk_frozen BK640002.out 1) | (go_at_call 45; (with_reducible refine (impl_isKey.calls ((rd_T58 l0 x10_1).f0) false _ A6.out).mono ?_); rintro e w' ⟨rfl, ⟨nd, rfl⟩⟩; (try first | exact ⟨rfl, _, World.drewN_drewN _ _ _⟩ | exact ⟨rfl, _, Eq.trans (World.drewN_drewN _ _ _) (congrArg (World.drewN _) (Nat.add_assoc _ _ _))⟩))))
                go_ret
                exact ⟨by first | rfl | (simp [errW_none, errW_some] <;> rfl) | (simp [*, errW_none, errW_some] <;> rfl), by repeat (first | (with_reducible first | exact HB.out | apply below_alloc | apply pw_below_drewN | apply below_drew1 | refine below_set ?_ GE640002.out) | exact HB.out)⟩
            · rw [if_neg c5] at H
              exact absurd H (by simp)
          · rw [if_neg c4] at H
            exact absurd H (by simp)
        · rw [if_neg c3] at H
          have c3b0 : decide (x10_1 < (l0.length : Int)) = false := decide_eq_false c3
          clear c3
          obtain rfl := Option.some.inj H
          go_wp2
          repeat (go_quiet (fail); try go_wp2)
          go_ret
          exact ⟨by first | rfl | (simp [errW_none, errW_some] <;> rfl) | (simp [*, errW_none, errW_some] <;> rfl), by repeat (first | (with_reducible first | exact HB.out | apply below_alloc | apply pw_below_drewN | apply below_drew1) | exact HB.out)⟩

end Go.Proofs.Ytnpmepaiigbhlaa.PX
