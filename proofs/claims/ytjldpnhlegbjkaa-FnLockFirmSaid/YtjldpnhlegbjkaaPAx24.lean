import Derived.Test.YtjldpnhlegbjkaaPAx0
namespace Go.Proofs.Ytjldpnhlegbjkaa.PA
open Go.RowKit Go.Proofs.YtjldpnhlegbjkaaW.PrintWords Go.Proofs.YtjldpnhlegbjkaaW.PrintLast Go.Proofs.YtjldpnhlegbjkaaW.PrintMore
attribute [local go_sem] max2_int min2_int max_two min_two max_three min_three max_four min_four
set_option linter.unusedVariables false
set_option linter.unusedSimpArgs false

set_option maxHeartbeats 8000000 in
set_option maxRecDepth 100000 in
theorem cmpNaN (a : Int) (w : World) : Calls Try.prog 76 #[.int .i64 a] w fun e w' => e = .returned (.bool false) ∧ Below w.heap.size w w' := by
 have HB := Aside0.mk (Below.refl w.heap.size w)
 have q : (a != a) = false := by simp
 go_enter Try.func76, Try.ntmps76
 go_wp2
 go_ret
 exact ⟨rfl, by repeat (first | exact HB.out | apply below_alloc | apply pw_below_drewN)⟩
def cmpTo (a b : Int) : Int := if a < b then -1 else if b < a then 1 else 0
set_option maxHeartbeats 8000000 in
set_option maxRecDepth 100000 in
theorem cmp_calls (a b : Int) (w : World) : Calls Try.prog 72 #[.int .i64 a, .int .i64 b] w fun e w' => e = .returned (.int .i64 (cmpTo a b)) ∧ Below w.heap.size w w' := by
 have HB := Aside0.mk (Below.refl w.heap.size w)
 go_enter Try.func72, Try.ntmps72
 go_wp2_with (fail)
 refine (cmpNaN a _).mono ?_
 rintro e w1 ⟨rfl, hb⟩
 have HB := Aside0.mk (below_step HB.out hb)
 clear hb
 go_wp2_with (fail)
 refine (cmpNaN b _).mono ?_
 rintro e w2 ⟨rfl, hb⟩
 have HB := Aside0.mk (below_step HB.out hb)
 clear hb
 by_cases h1 : a < b
 ·have p1 : decide (a < b) = true := decide_eq_true h1
  have he := Aside0.mk (show cmpTo a b = -1 from if_pos h1)
  clear h1
  go_wp2_with (fail)
  go_ret
  exact ⟨by rw [he.out]; rfl, HB.out⟩
 ·have p1 : decide (a < b) = false := decide_eq_false h1
  by_cases h2 : b < a
  ·have p2 : decide (b < a) = true := decide_eq_true h2
   have he := Aside0.mk (show cmpTo a b = 1 by unfold cmpTo; rw [if_neg h1, if_pos h2])
   clear h1 h2
   go_wp2_with (fail)
   go_ret
   exact ⟨by rw [he.out]; rfl, HB.out⟩
  ·have p2 : decide (b < a) = false := decide_eq_false h2
   have he := Aside0.mk (show cmpTo a b = 0 by unfold cmpTo; rw [if_neg h1, if_neg h2])
   clear h1 h2
   go_wp2_with (fail)
   go_ret
   exact ⟨by rw [he.out]; rfl, HB.out⟩
set_option maxHeartbeats 8000000 in
set_option maxRecDepth 100000 in
theorem stamp_calls (h : S45) (w : World) : Calls Try.prog 47 #[.agg #[.int .i64 h.f0, .int .i64 h.f1, .bool h.f2, .bool h.f3]] w fun e w' => e = .returned (.int .i64 h.f0) ∧ Below w.heap.size w w' := by
 have hu := Try.underlying45
 have HB := Aside0.mk (Below.refl w.heap.size w)
 go_enter Try.func47, Try.ntmps47
 go_wp2
 go_ret
 exact ⟨rfl, by repeat (first | exact HB.out | apply below_alloc | apply pw_below_drewN)⟩
set_option maxHeartbeats 8000000 in
set_option maxRecDepth 100000 in
theorem place1_calls (h : S45) (n : Int) (b : Nat) (w : World) (hc : w.cell? ⟨b, 0, none⟩ = some (.func (.func 47) #[] #[])) :
 Calls Try.prog 71 #[.agg #[.int .i64 h.f0, .int .i64 h.f1, .bool h.f2, .bool h.f3], .int .i64 n, .pointer (some ⟨b, 0, none⟩)] w fun e w' => e = .returned (.int .i64 (cmpTo h.f0 n)) ∧ Below w.heap.size w w' := by
 have hu := Try.underlying45
 have HB := Aside0.mk (Below.refl w.heap.size w)
 have hc2 : (w.alloc (.cells #[.int .i64 h.f0, .int .i64 h.f1, .bool h.f2, .bool h.f3] 45 (0, 0))).cell? ⟨b, 0, none⟩ = some (.func (.func 47) #[] #[]) := (World.cell?_alloc_lt _ _ _ (World.block_lt_of_cell? w _ hc)).trans hc
 go_enter Try.func71, Try.ntmps71
 go_wp2_with (fail)
 refine (stamp_calls h _).mono ?_
 rintro e w1 ⟨rfl, hb⟩
 have HB := Aside0.mk (below_step (below_alloc HB.out _) hb)
 clear hb
 go_wp2_with (fail)
 refine (cmp_calls _ _ _).mono ?_
 rintro e w2 ⟨rfl, hb⟩
 have HB := Aside0.mk (below_step HB.out hb)
 clear hb
 go_wp2_with (fail)
 go_ret
 exact ⟨rfl, HB.out⟩
def placeOf (l : List S45) (t : Int) : Int := ((l.filter (fun x => decide (x.f0 < t))).length : Int)
def hasOf (l : List S45) (t : Int) : Bool := l.any (fun x => decide (x.f0 = t))
def Asc (l : List S45) : Prop := l.Pairwise (fun a b => a.f0 < b.f0)
instance (l : List S45) : Decidable (Asc l) := inferInstanceAs (Decidable (l.Pairwise (fun a b => a.f0 < b.f0)))
theorem rdH {l : List S45} {i : Nat} (h : i < l.length) : rd_T45 l (i : Int) = l[i] := by
 simp [rd_T45, List.getD_eq_getElem?_getD, List.getElem?_eq_getElem h]
theorem asc_lt {l : List S45} (h : Asc l) {i j : Nat} (hij : i < j) (hj : j < l.length) : (rd_T45 l i).f0 < (rd_T45 l j).f0 := by
 rw [rdH hj, rdH (show i < l.length by omega)]
 exact (List.pairwise_iff_getElem.1 h) i j (by omega) hj hij
theorem place_at {l : List S45} (t : Int) (i : Nat) (hi : i ≤ l.length) (h1 : ∀ x : Nat, x < i → (rd_T45 l x).f0 < t) (h2 : ∀ x : Nat, i ≤ x → x < l.length → t ≤ (rd_T45 l x).f0) : placeOf l t = i := by
 unfold placeOf
 have e : l.filter (fun x => decide (x.f0 < t)) = l.take i := by
  conv => lhs; rw [← List.take_append_drop i l]
  rw [List.filter_append, List.filter_eq_self.2, List.filter_eq_nil_iff.2, List.append_nil]
  ·intro a ha
   obtain ⟨j, hj, rfl⟩ := List.getElem_of_mem ha
   have hl : i + j < l.length := by rw [List.length_drop] at hj; omega
   have := h2 (i + j) (by omega) hl
   rw [rdH hl] at this
   rw [List.getElem_drop]
   simp only [decide_eq_true_eq]; omega
  ·intro a ha
   obtain ⟨j, hj, rfl⟩ := List.getElem_of_mem ha
   have hl : j < i ∧ j < l.length := by rw [List.length_take] at hj; omega
   have := h1 j hl.1
   rw [rdH hl.2] at this
   rw [List.getElem_take]
   exact decide_eq_true this
 rw [e, List.length_take]
 omega
theorem has_at {l : List S45} (t : Int) (i : Nat) (h1 : ∀ x : Nat, x < i → (rd_T45 l x).f0 < t) (h2 : ∀ x : Nat, i ≤ x → x < l.length → t ≤ (rd_T45 l x).f0) (hs : Asc l) (hi : i < l.length) : hasOf l t = decide ((rd_T45 l i).f0 = t) := by
 unfold hasOf
 by_cases h : (rd_T45 l i).f0 = t
 ·rw [decide_eq_true h, List.any_eq_true]
  exact ⟨l[i], List.getElem_mem hi, by rw [rdH hi] at h; exact decide_eq_true h⟩
 ·rw [decide_eq_false h, List.any_eq_false]
  intro a ha
  obtain ⟨j, hj, rfl⟩ := List.getElem_of_mem ha
  have h3 := h2 i (Nat.le_refl _) hi
  have e := rdH hj
  simp only [decide_eq_true_eq]
  rw [← e]
  rcases Nat.lt_trichotomy j i with q | q | q
  ·have := h1 j q; omega
  ·subst q; exact h
  ·have := asc_lt hs q hj; omega
theorem has_end {l : List S45} (t : Int) (h1 : ∀ x : Nat, x < l.length → (rd_T45 l x).f0 < t) : hasOf l t = false := by
 unfold hasOf
 rw [List.any_eq_false]
 intro a ha
 obtain ⟨j, hj, rfl⟩ := List.getElem_of_mem ha
 have := h1 j hj
 rw [rdH hj] at this
 simp only [decide_eq_true_eq]; omega
set_option maxHeartbeats 8000000 in
set_option maxRecDepth 100000 in
theorem bs_calls (A0 : Option Addr) (c0 : Nat) (l0 : List S45) (t : Int) (b : Nat) (w : World) (hr0 : Kd.C k45 w A0 l0.length l0) (hc0 : l0.length ≤ c0) (hb1 : l0.length ≤ 1000000) (hs : Asc l0) (hc : w.cell? ⟨b, 0, none⟩ = some (.func (.func 47) #[] #[])) :
 Calls Try.prog 70 #[.slice A0 l0.length c0, .int .i64 t, .func (.func 71) #[] #[.pointer (some ⟨b, 0, none⟩)]] w fun e w' => e = .returned (.tuple #[.int .i64 (placeOf l0 t), .bool (hasOf l0 t)]) ∧ Below w.heap.size w w' := by
 have HR := Aside0.mk hr0
 have HC := Aside0.mk hc0
 have HS := Aside0.mk hs
 have HL := Aside0.mk hb1
 have HF := Aside0.mk hc
 clear hr0 hc0 hs hb1 hc
 go_enter Try.func70, Try.ntmps70
 go_wp2_with (fail)
 go_loopw [9, 10] (fun v9 v10 wr => ∃ i j : Nat, v9 = .int .i64 i ∧ v10 = .int .i64 j ∧ Aside0 (i ≤ j ∧ j ≤ l0.length) ∧ Aside0 (∀ x : Nat, x < i → (rd_T45 l0 x).f0 < t) ∧ Aside0 (∀ x : Nat, j ≤ x → x < l0.length → t ≤ (rd_T45 l0 x).f0) ∧ Aside0 (Below w.heap.size w wr)) (fun v9 v10 _ => (intOf v10 - intOf v9).toNat)
 case atStart => exact ⟨0, l0.length, rfl, rfl, ⟨by omega⟩, ⟨fun x h => absurd h (by omega)⟩, ⟨fun x h1 h2 => absurd h2 (by omega)⟩, ⟨by first | exact Below.refl _ _ | exact pw_below_drewN (Below.refl _ _) _⟩⟩
 case round =>
  obtain ⟨i, j, rfl, rfl, HIJ, H1, H2, HB⟩ := hrel
  by_cases hlt : i < j
  ·have hd : decide (i < j) = true := decide_eq_true hlt
   have hij := HIJ.out
   have hl := HL.out
   have hw1 : wrap64 ((i : Int) + (j : Int)) = (i : Int) + j := by unfold wrap64; omega
   have hm : (i + j) / 2 < l0.length := by omega
   have hmc : (((i + j) / 2 : Nat) : Int) = ((i : Int) + (j : Int)) / 2 := by omega
   obtain ⟨ad, hA, hx0, hx1, hx2, hx3⟩ := at_T45 HR.out (((i + j) / 2 : Nat) : Int) (by omega) (by omega)
   subst hA
   have hy0 := (HB.out.cell (World.block_lt_of_cell? w _ hx0)).trans hx0
   have hy1 := (HB.out.cell (World.block_lt_of_cell? w _ hx1)).trans hx1
   have hy2 := (HB.out.cell (World.block_lt_of_cell? w _ hx2)).trans hx2
   have hy3 := (HB.out.cell (World.block_lt_of_cell? w _ hx3)).trans hx3
   simp only [Int.toNat_natCast] at hy0 hy1 hy2 hy3
   clear hx0 hx1 hx2 hx3
   have HFr := Aside0.mk ((HB.out.cell (World.block_lt_of_cell? w _ HF.out)).trans HF.out)
   have HLT := Aside0.mk hlt
   have HM := Aside0.mk hm
   have HMC := Aside0.mk hmc
   have HX := Aside0.mk (show ∀ x : Nat, x ≤ (i + j) / 2 → (rd_T45 l0 x).f0 ≤ (rd_T45 l0 (((i + j) / 2 : Nat) : Int)).f0 from fun x h => by
    rcases Nat.lt_or_ge x ((i + j) / 2) with q | q
    ·exact Int.le_of_lt (asc_lt HS.out q hm)
    ·rw [show x = (i + j) / 2 by omega]; exact Int.le_refl _)
   have HY := Aside0.mk (show ∀ x : Nat, (i + j) / 2 ≤ x → x < l0.length → (rd_T45 l0 (((i + j) / 2 : Nat) : Int)).f0 ≤ (rd_T45 l0 x).f0 from fun x h h2 => by
    rcases Nat.lt_or_ge ((i + j) / 2) x with q | q
    ·exact Int.le_of_lt (asc_lt HS.out q h2)
    ·rw [show x = (i + j) / 2 by omega]; exact Int.le_refl _)
   clear hlt hmc
   generalize rd_T45 l0 (((i + j) / 2 : Nat) : Int) = y at hy0 hy1 hy2 hy3 HX HY
   by_cases hc : y.f0 < t
   ·have he := Aside0.mk (show cmpTo y.f0 t = -1 from if_pos hc)
    have HC2 := Aside0.mk hc
    clear hc
    have hw2 : wrap64 (((i : Int) + (j : Int)) / 2 + 1) = ((i : Int) + (j : Int)) / 2 + 1 := by unfold wrap64; omega
    go_wp2_with (fail)
    refine (place1_calls y t b _ HFr.out).mono ?_
    rintro e w2 ⟨rfl, hb⟩
    rw [he.out]
    have HB2 := Aside0.mk (below_step HB.out hb)
    clear hb
    go_wp2_with (fail)
    go_roundw
    case rel => exact ⟨(i + j) / 2 + 1, j, congrArg (Value.int .i64) (by have := HMC.out; omega), rfl, ⟨by have := HLT.out; have := HIJ.out; omega⟩, ⟨fun x h => Int.lt_of_le_of_lt (HX.out x (by omega)) HC2.out⟩, H2, HB2⟩
    case measure => have := HLT.out; have := HIJ.out; simp [intOf]; omega
   ·have he := Aside0.mk (show ¬ cmpTo y.f0 t < 0 by unfold cmpTo; rw [if_neg hc]; split <;> omega)
    have hed : decide (cmpTo y.f0 t < 0) = false := decide_eq_false he.out
    have HC2 := Aside0.mk (Int.not_lt.1 hc)
    clear hc
    go_wp2_with (fail)
    refine (place1_calls y t b _ HFr.out).mono ?_
    rintro e w2 ⟨rfl, hb⟩
    have HB2 := Aside0.mk (below_step HB.out hb)
    clear hb
    go_wp2_with (fail)
    go_roundw
    case rel => exact ⟨i, (i + j) / 2, rfl, congrArg (Value.int .i64) (by have := HMC.out; omega), ⟨by have := HLT.out; have := HIJ.out; omega⟩, H1, ⟨fun x h h2 => Int.le_trans HC2.out (HY.out x h h2)⟩, HB2⟩
    case measure => have := HLT.out; have := HIJ.out; simp [intOf]; omega
  ·obtain rfl : i = j := by have := HIJ.out; omega
   have hd : decide (i < i) = false := decide_eq_false hlt
   clear hlt
   have HP := Aside0.mk (place_at t i HIJ.out.2 H1.out H2.out)
   by_cases hn : i < l0.length
   ·have hnd : decide (i < l0.length) = true := decide_eq_true hn
    obtain ⟨ad, hA, hx0, hx1, hx2, hx3⟩ := at_T45 HR.out (i : Int) (by omega) (by omega)
    subst hA
    have hy0 := (HB.out.cell (World.block_lt_of_cell? w _ hx0)).trans hx0
    have hy1 := (HB.out.cell (World.block_lt_of_cell? w _ hx1)).trans hx1
    have hy2 := (HB.out.cell (World.block_lt_of_cell? w _ hx2)).trans hx2
    have hy3 := (HB.out.cell (World.block_lt_of_cell? w _ hx3)).trans hx3
    simp only [Int.toNat_natCast] at hy0 hy1 hy2 hy3
    clear hx0 hx1 hx2 hx3
    have HFr := Aside0.mk ((HB.out.cell (World.block_lt_of_cell? w _ HF.out)).trans HF.out)
    have HH := Aside0.mk (has_at t i H1.out H2.out HS.out hn)
    generalize rd_T45 l0 (i : Int) = y at hy0 hy1 hy2 hy3 HH
    have hq : decide (cmpTo y.f0 t = 0) = decide (y.f0 = t) := by
     unfold cmpTo
     by_cases h1 : y.f0 < t
     ·rw [if_pos h1, decide_eq_false (by decide), decide_eq_false (by omega)]
     ·rw [if_neg h1]
      by_cases h2 : t < y.f0
      ·rw [if_pos h2, decide_eq_false (by decide), decide_eq_false (by omega)]
      ·rw [if_neg h2, decide_eq_true rfl, decide_eq_true (by omega)]
    have hq2 : (cmpTo y.f0 t == 0) = decide (y.f0 = t) := hq
    clear hq
    go_wp2_with (fail)
    refine (place1_calls y t b _ HFr.out).mono ?_
    rintro e w2 ⟨rfl, hb⟩
    have HB2 := Aside0.mk (below_step HB.out hb)
    clear hb
    go_wp2_with (fail)
    go_ret2
    exact ⟨by rw [HP.out, HH.out]; rfl, HB2.out⟩
   ·have hnd : decide (i < l0.length) = false := decide_eq_false hn
    have HH := Aside0.mk (has_end t (fun x h => H1.out x (by have := HIJ.out; omega)))
    go_wp2_with (fail)
    go_ret2
    exact ⟨by rw [HP.out, HH.out]; rfl, HB.out⟩
def impl_Hold_46.f (l0 : List S45) (a1 : Int) : Option (Int × Bool) := if Asc l0 ∧ l0.length ≤ 1000000 then some (placeOf l0 a1, hasOf l0 a1) else none
set_option maxHeartbeats 8000000 in
set_option maxRecDepth 100000 in
theorem impl_Hold_46.calls (A0 : Option Addr) (c0 : Nat) (l0 : List S45) (a1 : Int) (r1 : Int) (r2 : Bool) (w : World) (hr0 : Kd.C k45 w A0 l0.length l0) (hc0 : l0.length ≤ c0) (h : impl_Hold_46.f l0 a1 = some (r1, r2)) :
 Calls Try.prog 46 #[.slice A0 l0.length c0, .int .i64 a1, .func (.func 47) #[] #[]] w fun e w' => e = .returned (.tuple #[.int .i64 r1, .bool r2]) ∧ Below w.heap.size w w' := by
 unfold impl_Hold_46.f at h
 by_cases hs : Asc l0 ∧ l0.length ≤ 1000000
 ·rw [if_pos hs] at h
  simp only [Option.some.injEq, Prod.mk.injEq] at h
  obtain ⟨rfl, rfl⟩ := h
  have HR := Aside0.mk hr0
  have HC := Aside0.mk hc0
  have HS := Aside0.mk hs
  clear hr0 hc0 hs
  have hmf : ∀ (fn : Fn) (first cap : Array Value) (w : World), (Instr.makeFunc fn first cap).run Try.prog w = .ok (.func fn first cap) w := fun _ _ _ _ => rfl
  have HB := Aside0.mk (Below.refl w.heap.size w)
  go_enter Try.func46, Try.ntmps46
  go_wp2_with (fail)
  have hr : Kd.C k45 (w.alloc (Obj.cells #[Value.func (Fn.func 47) #[] #[]] 65)) A0 l0.length l0 := Kd.C_alloc HR.out _
  refine (bs_calls A0 c0 l0 a1 w.heap.size _ hr HC.out HS.out.2 HS.out.1 (by rw [World.cell?_alloc_new]; rfl)).mono ?_
  rintro e w1 ⟨rfl, hb⟩
  have HB2 := Aside0.mk (below_step (below_alloc HB.out _) hb)
  clear hb
  go_wp2_with (fail)
  go_ret2
  exact ⟨rfl, HB2.out⟩
 ·rw [if_neg hs] at h; cases h
theorem place_eq {l : List S45} (t : Int) (h : Asc l) (hl : l.length ≤ 1000000) : impl_Hold_46.f l t = some (placeOf l t, hasOf l t) := if_pos ⟨h, hl⟩
theorem place_calls (A0 : Option Addr) (c0 : Nat) (l0 : List S45) (a1 : Int) (r1 : Int) (r2 : Bool) (w : World) (hr0 : Kd.C k45 w A0 l0.length l0) (hc0 : l0.length ≤ c0) (hs : Asc l0) (hl : l0.length ≤ 1000000) (h1 : placeOf l0 a1 = r1) (h2 : hasOf l0 a1 = r2) :
 Calls Try.prog 46 #[.slice A0 l0.length c0, .int .i64 a1, .func (.func 47) #[] #[]] w fun e w' => e = .returned (.tuple #[.int .i64 r1, .bool r2]) ∧ Below w.heap.size w w' :=
 impl_Hold_46.calls A0 c0 l0 a1 r1 r2 w hr0 hc0 (by rw [place_eq a1 hs hl, h1, h2])

end Go.Proofs.Ytjldpnhlegbjkaa.PA
