import Derived.Test.YtbjdnfgalopfiaaPEx0
import Derived.Test.YtbjdnfgalopfiaaPEx26
import Derived.Test.YtbjdnfgalopfiaaPEx29
namespace Go.Proofs.Ytbjdnfgalopfiaa.PE
open Go.RowKit Go.Proofs.YtbjdnfgalopfiaaW.PrintWords Go.Proofs.YtbjdnfgalopfiaaW.PrintLast Go.Proofs.YtbjdnfgalopfiaaW.PrintMore
attribute [local go_sem] max2_int min2_int max_two min_two max_three min_three max_four min_four
set_option linter.unusedVariables false
set_option linter.unusedSimpArgs false

def risAt (l : List Int) (x : Int) : Bool := decide (0 ≤ rd l x ∧ rd l x ≤ 7) && (decide (x = 0) || decide (rd l (x - 1) < rd l x))
theorem isSlotEq (s : Int) : impl_isSlot.f s = some (decide (0 ≤ s ∧ s ≤ 7)) := by
 unfold impl_isSlot.f impl_within.f
 by_cases h : (0 : Int) ≤ s <;> simp [h]
theorem ris_no {l : List Int} {x : Int} (h0 : 0 ≤ x) (hk : x < l.length) (h : risAt l x = false) : (List.range l.length).all (fun i : Nat => risAt l (i : Int)) = false := by
 rw [Bool.eq_false_iff]
 intro ha
 rw [List.all_eq_true] at ha
 have := ha x.toNat (List.mem_range.2 (by omega))
 rw [Int.toNat_of_nonneg h0, h] at this
 cases this
theorem ris_yes {l : List Int} {x : Int} (hx : x = l.length) (h : ∀ j : Nat, (j : Int) < x → risAt l (j : Int) = true) : (List.range l.length).all (fun i : Nat => risAt l (i : Int)) = true := by
 rw [List.all_eq_true]
 intro j hj
 have := List.mem_range.1 hj
 exact h j (by omega)
theorem ris_up {l : List Int} {x : Int} (h : ∀ j : Nat, (j : Int) < x → risAt l (j : Int) = true) (h1 : risAt l x = true) : ∀ j : Nat, (j : Int) < x + 1 → risAt l (j : Int) = true := by
 intro j hj
 by_cases hjk : (j : Int) = x
 ·rw [hjk]; exact h1
 ·exact h j (by omega)
def impl_rising.f (l0 : List Int) : Option (Bool) := some ((List.range l0.length).all (fun i : Nat => risAt l0 (i : Int)))
set_option maxHeartbeats 8000000 in
set_option maxRecDepth 100000 in
theorem impl_rising.calls (A0 : Option Addr) (c0 : Nat) (l0 : List Int) (r : Bool) (w : World) (hr0 : Kd.C (Kd.int .i64) w A0 l0.length l0) (hc0 : l0.length ≤ c0) (h : impl_rising.f l0 = some r) :
 Calls Try.prog 33 #[.slice A0 l0.length c0, .func (.func 34) #[] #[]] w fun e w' => e = .returned (.bool r) ∧ Drawn0 w w' := by
 have HE := Aside0.mk (show r = (List.range l0.length).all (fun i : Nat => risAt l0 (i : Int)) from (Option.some.inj h).symm)
 clear h
 have HR := Aside0.mk hr0
 have HC := Aside0.mk hc0
 have HM := Aside0.mk (show l0.length ≤ 9223372036854775807 from hr0.2.1)
 clear hr0 hc0
 go_enter Try.func33, Try.ntmps33
 go_wp2_with (fail)
 go_loopw [9] (fun i wr => ∃ x : Int, Aside0 (0 ≤ x ∧ x ≤ l0.length) ∧ i = .int .i64 x ∧ Aside0 (∀ j : Nat, (j : Int) < x → risAt l0 (j : Int) = true) ∧ Drawn0 w wr) (fun i _ => l0.length - (intOf i).toNat)
 case atStart => exact ⟨0, ⟨by omega⟩, rfl, ⟨fun j hj => absurd hj (by omega)⟩, Drawn0.refl _⟩
 case round =>
  obtain ⟨x, HX, rfl, HP, ⟨nd0, rfl⟩⟩ := hrel
  by_cases hlt : x < (l0.length : Int)
  ·have hdl : decide (x < (l0.length : Int)) = true := decide_eq_true hlt
   have HLT := Aside0.mk hlt
   obtain ⟨ad, hA, hx⟩ := Kd.at_int HR.out x HX.out.1 hlt
   subst hA
   have p : (0 ≤ x) = True := eq_true HX.out.1
   have q : (x < (l0.length : Int)) = True := eq_true hlt
   have hw : wrap64 (x + 1) = x + 1 := by have := HM.out; have := HX.out; unfold wrap64; omega
   clear hlt
   by_cases hs : 0 ≤ rd l0 x ∧ rd l0 x ≤ 7
   ·have HS := Aside0.mk (decide_eq_true hs)
    clear hs
    by_cases h0 : x = 0
    ·subst h0
     have hl0 : 0 < l0.length := by have := HLT.out; omega
     have q0 : (0 < l0.length) = True := eq_true hl0
     have qd : decide (0 < l0.length) = true := decide_eq_true hl0
     have hx0 : w.cell? ad = some (.int .i64 (rd l0 0)) := by simpa [Addr.add] using hx
     clear hl0
     have HN := Aside0.mk (ris_up HP.out (show risAt l0 0 = true by simp only [risAt, HS.out]; rfl))
     go_wp2_with (fail)
     refine (impl_isSlot.calls _ true _ ((isSlotEq _).trans (congrArg some HS.out))).mono ?_
     rintro e w2 ⟨rfl, ⟨nd, rfl⟩⟩
     go_wp2_with (fail)
     go_roundw
     case rel => exact ⟨0 + 1, ⟨by have := HLT.out; omega⟩, rfl, HN, by repeat (first | exact Drawn0.refl _ | exact ⟨_, rfl⟩ | apply Drawn0.step)⟩
     case measure => have := HLT.out; simp [intOf]; omega
    ·have h1 : 0 < x := by have := HX.out; omega
     have hd1 : decide (0 < x) = true := decide_eq_true h1
     have p1 : (0 < x) = True := eq_true h1
     have hw1 : wrap64 (x - 1) = x - 1 := by have := HM.out; have := HX.out; have := HLT.out; unfold wrap64; omega
     obtain ⟨ad', hA', hx'⟩ := Kd.at_int HR.out (x - 1) (by omega) (by have := HLT.out; omega)
     obtain rfl := Option.some.inj hA'
     clear hA'
     rw [show (x - 1).toNat = x.toNat - 1 by omega] at hx'
     have p3 : (1 ≤ x) = True := eq_true (by omega)
     have p4 : (x < 1) = False := eq_false (by omega)
     have p2 : (0 ≤ x - 1) = True := eq_true (by omega)
     have q2 : (x - 1 < (l0.length : Int)) = True := eq_true (by have := HLT.out; omega)
     have H1 := Aside0.mk h1
     clear h1
     by_cases hc : rd l0 (x - 1) < rd l0 x
     ·have HN := Aside0.mk (ris_up HP.out (show risAt l0 x = true by simp only [risAt, HS.out, decide_eq_true hc, Bool.or_true, Bool.and_self]))
      have hcd : decide (rd l0 x ≤ rd l0 (x - 1)) = false := decide_eq_false (by omega)
      have hcp : (rd l0 x ≤ rd l0 (x - 1)) = False := eq_false (by omega)
      clear hc
      go_wp2_with (fail)
      refine (impl_isSlot.calls _ true _ ((isSlotEq _).trans (congrArg some HS.out))).mono ?_
      rintro e w2 ⟨rfl, ⟨nd, rfl⟩⟩
      go_wp2_with (fail)
      go_roundw
      case rel => exact ⟨x + 1, ⟨by have := HX.out; have := HLT.out; omega⟩, by first | rfl | (simp; done) | (simp [*]; done) | (rw [hw]), HN, by repeat (first | exact Drawn0.refl _ | exact ⟨_, rfl⟩ | apply Drawn0.step)⟩
      case measure => have := HX.out; have := HLT.out; simp [intOf, hw]; omega
     ·have hf := HE.out.trans (ris_no HX.out.1 HLT.out (show risAt l0 x = false by simp only [risAt, HS.out, decide_eq_false hc, decide_eq_false h0, Bool.or_false, Bool.and_false]))
      subst hf
      have hcd : decide (rd l0 x ≤ rd l0 (x - 1)) = true := decide_eq_true (by omega)
      have hcp : (rd l0 x ≤ rd l0 (x - 1)) = True := eq_true (by omega)
      clear hc
      go_wp2_with (fail)
      refine (impl_isSlot.calls _ true _ ((isSlotEq _).trans (congrArg some HS.out))).mono ?_
      rintro e w2 ⟨rfl, ⟨nd, rfl⟩⟩
      go_wp2_with (fail)
      go_ret
      exact ⟨rfl, by repeat (first | exact Drawn0.refl _ | exact ⟨_, rfl⟩ | apply Drawn0.step)⟩
   ·have HS := Aside0.mk (decide_eq_false hs)
    have hf := HE.out.trans (ris_no HX.out.1 HLT.out (show risAt l0 x = false by simp only [risAt, HS.out, Bool.false_and]))
    subst hf
    clear hs
    go_wp2_with (fail)
    refine (impl_isSlot.calls _ false _ ((isSlotEq _).trans (congrArg some HS.out))).mono ?_
    rintro e w2 ⟨rfl, ⟨nd, rfl⟩⟩
    go_wp2_with (fail)
    go_ret
    exact ⟨rfl, by repeat (first | exact Drawn0.refl _ | exact ⟨_, rfl⟩ | apply Drawn0.step)⟩
  ·have ht := HE.out.trans (ris_yes (by have := HX.out; omega) HP.out)
   subst ht
   have hdl : decide (x < (l0.length : Int)) = false := decide_eq_false hlt
   have q : (x < (l0.length : Int)) = False := eq_false hlt
   clear hlt
   go_wp2_with (fail)
   go_ret
   exact ⟨rfl, ⟨_, rfl⟩⟩

end Go.Proofs.Ytbjdnfgalopfiaa.PE
