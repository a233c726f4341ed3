/- (*pen).numbers and (*pen).counted. -/
import Derived.Test.YtbjdnfgalopfiaaE1
import Derived.Deep.Cut
namespace Go.Proofs.Ytbjdnfgalopfiaa.PE
open Go.RowKit Go.Proofs.YtbjdnfgalopfiaaW.PrintWords Go.Proofs.YtbjdnfgalopfiaaW.PrintLast Go.Proofs.YtbjdnfgalopfiaaW.PrintMore
attribute [local go_sem] max2_int min2_int max_two min_two max_three min_three max_four min_four
set_option linter.unusedVariables false
set_option linter.unusedSimpArgs false
set_option maxHeartbeats 8000000 in
set_option maxRecDepth 100000 in
theorem numbersW (bp : Nat) (l : List Int) (A : Option Addr) (c : Nat) (xs : List Int) (w0 w : World) (h : PenAt w0 w bp l) (hr : ∀ W, KT w W → Below w0.heap.size w0 W → Kd.C (Kd.int .i64) W A xs.length xs) (hl : l.length ≤ 900000000) (hx : ∀ x ∈ xs, okN x) (hn : xs.length ≤ 1048576) :
    Calls Try.prog 45 #[.pointer (some ⟨bp, 0, none⟩), .slice A xs.length c] w fun e w' => e = .returned (.tuple #[]) ∧ PenAt w0 w' bp (l ++ xs.flatMap numB) ∧ KT w w' := by
  have HR := Aside0.mk hr
  have HL := Aside0.mk (And.intro hl hn)
  have HX := Aside0.mk hx
  have PA := Aside0.mk h
  have HK := Aside0.mk (KT.refl w)
  clear h hl hn hr hx
  go_enter Try.func45, Try.ntmps45
  go_wp2_with (fail)
  go_loopw [8] (fun i wr => ∃ k : Nat, i = .int .i64 (k : Int) ∧ Aside0 (k ≤ xs.length) ∧ Aside0 (PenAt w0 wr bp (l ++ (xs.take k).flatMap numB)) ∧ Aside0 (KT w wr)) (fun i _ => xs.length - (intOf i).toNat)
  case atStart => exact ⟨0, rfl, ⟨Nat.zero_le _⟩, ⟨by rw [List.take_zero, List.flatMap_nil, List.append_nil]; exact PA.out⟩, HK⟩
  case round =>
    clear PA HK
    obtain ⟨k, rfl, HK0, PA, HK⟩ := hrel
    by_cases hlt : k < xs.length
    · have HT := Aside0.mk hlt
      have hdl : decide (k < xs.length) = true := decide_eq_true hlt
      have hwk : wrap64 ((k : Int) + 1) = (k : Int) + 1 := by unfold wrap64; have := HL.out; omega
      obtain ⟨ad, hA, y0⟩ := Kd.at_int (HR.out wr HK.out PA.out.under) (k : Int) (by omega) (by omega)
      subst hA
      simp only [Int.toNat_natCast] at y0
      have hrd : rd xs (k : Int) = xs[k]'hlt := by simp [rd, List.getD_eq_getElem?_getD, List.getElem?_eq_getElem hlt]
      rw [hrd] at y0
      have HE := Aside0.mk (HX.out _ (List.getElem_mem hlt))
      generalize hy_ : xs[k]'hlt = y at y0 HE
      have HY := Aside0.mk hy_
      clear hrd hy_
      have hlt1 : (k : Int) < (xs.length : Int) := by omega
      go_wp2_with (fail)
      clear y0
      refine (numberW bp _ y w0 wr PA.out (by
        have := flat_len (xs := xs.take k) (fun x hx => HX.out x (List.mem_of_mem_take hx))
        rw [List.length_append]
        rw [List.length_take] at this
        have := HL.out
        omega) HE.out).mono ?_
      rintro e w2 ⟨rfl, h2, hk2⟩
      have PN := Aside0.mk h2
      have KN := Aside0.mk (HK.out.trans hk2)
      clear h2 hk2
      go_wp2_with (fail)
      go_roundw
      case rel => exact ⟨k + 1, (by first | rfl | exact congrArg (Value.int .i64) (by omega)), ⟨HT.out⟩, ⟨by rw [flat_take HT.out, HY.out, ← List.append_assoc]; exact PN.out⟩, KN⟩
      case measure =>
        (try rw [hwk])
        show xs.length - ((k : Int) + 1).toNat < xs.length - (k : Int).toNat
        have := HT.out
        omega
    · have hdl : decide (k < xs.length) = false := decide_eq_false hlt
      obtain rfl : xs.length = k := by have := HK0.out; omega
      clear hlt
      go_wp2_with (fail)
      refine bodyPost_end (results_none rfl _ _ _) rfl ⟨rfl, ?_, HK.out⟩
      have h := PA.out
      rw [List.take_length] at h
      exact h
set_option maxHeartbeats 8000000 in
set_option maxRecDepth 100000 in
theorem countedW (bp : Nat) (l : List Int) (A : Option Addr) (c : Nat) (xs : List Int) (w0 w : World) (h : PenAt w0 w bp l) (hr : ∀ W, KT w W → Below w0.heap.size w0 W → Kd.C (Kd.int .i64) W A xs.length xs) (hl : l.length ≤ 800000000) (hx : ∀ x ∈ xs, okN x) (hn : xs.length ≤ 1048576) :
    Calls Try.prog 46 #[.pointer (some ⟨bp, 0, none⟩), .slice A xs.length c] w fun e w' => e = .returned (.tuple #[]) ∧ PenAt w0 w' bp (l ++ (numB xs.length ++ xs.flatMap numB)) ∧ KT w w' := by
  have HR := Aside0.mk hr
  have HL := Aside0.mk (And.intro hl hn)
  have HX := Aside0.mk hx
  have PA := Aside0.mk h
  clear h hl hn hr hx
  go_enter Try.func46, Try.ntmps46
  go_wp2_with (fail)
  refine (numberW bp l (xs.length : Int) w0 w PA.out (by have := HL.out; omega) (by have := HL.out; omega)).mono ?_
  rintro e w2 ⟨rfl, h2, hk2⟩
  have PN := Aside0.mk h2
  have KN := Aside0.mk hk2
  clear h2 hk2
  go_wp2_with (fail)
  refine (numbersW bp _ A c xs w0 w2 PN.out (fun W k b => HR.out W (KN.out.trans k) b) (by
    have := numB_len (n := (xs.length : Int)) (by have := HL.out; omega)
    rw [List.length_append]
    have := HL.out
    omega) HX.out HL.out.2).mono ?_
  rintro e w3 ⟨rfl, h3, hk3⟩
  have PM := Aside0.mk h3
  have KM := Aside0.mk (KN.out.trans hk3)
  clear h3 hk3
  go_wp2_with (fail)
  refine bodyPost_end (results_none rfl _ _ _) rfl ⟨rfl, ?_, KM.out⟩
  rw [← List.append_assoc]
  exact PM.out
end Go.Proofs.Ytbjdnfgalopfiaa.PE
