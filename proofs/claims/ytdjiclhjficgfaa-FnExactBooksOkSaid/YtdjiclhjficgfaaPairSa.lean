/- What the guard of pairs comes to, on both sides. -/
import Derived.Test.YtdjiclhjficgfaaBase
import Derived.Test.YtdjiclhjficgfaaSmall
import Derived.Test.YtdjiclhjficgfaaPBx9
import Derived.Test.YtdjiclhjficgfaaPBx15
import Derived.Test.YtdjiclhjficgfaaPBx14
import Derived.Test.YtdjiclhjficgfaaPBx8
namespace Go.Proofs.Ytdjiclhjficgfaa.PB
open Go.RowKit Go.Proofs.Ytdjiclhjficgfaa.PB Go.Proofs.YtdjiclhjficgfaaW.PrintWords Go.Proofs.YtdjiclhjficgfaaW.PrintLast
set_option linter.unusedVariables false
set_option linter.unusedSimpArgs false
theorem rd58_lt {l : List S48} {i : Nat} (h : i < l.length) : rd_T48 l (i : Int) = l[i] := by simp [rd_T48, List.getD_eq_getElem?_getD, List.getElem?_eq_getElem h]
theorem isKey_eq (n : Int) : impl_isKey.f n = some (decide (0 ≤ n ∧ n ≤ 31)) := by
  unfold impl_isKey.f
  rw [within_eq]; rfl
theorem isVal_eq (n : Int) : impl_isVal.f n = some (decide (-9999 ≤ n ∧ n ≤ 9999)) := by
  unfold impl_isVal.f
  rw [within_eq]; rfl
theorem l1Val_eq (n : Int) : spec_l1Val.f n = some (decide (-9999 ≤ n ∧ n ≤ 9999)) := by
  unfold spec_l1Val.f
  rw [l6In_eq]; rfl
def PairAt (l : List S48) (j : Nat) (h : j < l.length) : Prop := (0 ≤ l[j].f0 ∧ l[j].f0 ≤ 31) ∧ (-9999 ≤ l[j].f1 ∧ l[j].f1 ≤ 9999) ∧ (0 < j → (l[j - 1]'(by omega)).f0 < l[j].f0)
def PairsOk (l : List S48) : Prop := l.length ≤ 32 ∧ ∀ j (h : j < l.length), PairAt l j h
def pairShape (l : List S48) (i : Nat) (h : i < l.length) (r : Option Bool) : Option Bool :=
  if decide (0 ≤ l[i].f0 ∧ l[i].f0 ≤ 31) = true then (if decide (-9999 ≤ l[i].f1 ∧ l[i].f1 ≤ 9999) = true then (if (i : Int) > 0 then (if 0 ≤ wrap64 ((i : Int) - 1) then (if wrap64 ((i : Int) - 1) < (l.length : Int) then (if (rd_T48 l (wrap64 ((i : Int) - 1))).f0 ≥ l[i].f0 then some false else r) else none) else none) else r) else some false) else some false
theorem pairShape_ev (l : List S48) (i : Nat) (h : i < l.length) (hl : l.length ≤ 32) (c : Bool) : ∃ b : Bool, (b = true ↔ PairAt l i h ∧ c = true) ∧ ∀ R : Nat → Option Bool, Ev R c → Ev (fun k => pairShape l i h (R k)) b := by
  unfold pairShape PairAt
  by_cases hk : 0 ≤ l[i].f0 ∧ l[i].f0 ≤ 31
  · by_cases hv : -9999 ≤ l[i].f1 ∧ l[i].f1 ≤ 9999
    · by_cases h0 : 0 < i
      · have hw : wrap64 ((i : Int) - 1) = ((i - 1 : Nat) : Int) := by rw [wrap_in (by omega) (by omega)]; omega
        rw [hw, rd58_lt (show i - 1 < l.length by omega)]
        by_cases ha : (l[i - 1]'(by omega)).f0 < l[i].f0
        · exact ⟨c, by simp [hk, hv, ha], fun R hR => Ev.pos (by simpa using hk) (Ev.pos (by simpa using hv) (Ev.pos (by omega) (Ev.pos (by omega) (Ev.pos (by omega) (Ev.neg (by omega) hR)))))⟩
        · exact ⟨false, by simp [h0]; intros; omega, fun R hR => Ev.pos (by simpa using hk) (Ev.pos (by simpa using hv) (Ev.pos (by omega) (Ev.pos (by omega) (Ev.pos (by omega) (Ev.pos (by omega) (Ev.ret rfl))))))⟩
      · exact ⟨c, by simp [hk, hv, h0], fun R hR => Ev.pos (by simpa using hk) (Ev.pos (by simpa using hv) (Ev.neg (by omega) hR))⟩
    · exact ⟨false, by simp [hv], fun R hR => Ev.pos (by simpa using hk) (Ev.neg (by simpa using hv) (Ev.ret rfl))⟩
  · exact ⟨false, by simp [hk], fun R hR => Ev.neg (by simpa using hk) (Ev.ret rfl)⟩
theorem pairs_loop (l : List S48) (hl : l.length ≤ 32) : ∀ i, i ≤ l.length → ∃ b : Bool, Ev (fun k => spec_l1Pairs.l0 k l (i : Int)) b ∧ Ev (fun k => impl_pairsOk.l0 k l l (l.length : Int) (i : Int)) b ∧ (b = true ↔ ∀ j (h : j < l.length), i ≤ j → PairAt l j h) := by
  refine loop_down l.length ?_ ?_
  · refine ⟨true, ?_, ?_, by simp; intros; omega⟩
    · refine Ev.step (f := fun _ => some true) (fun k => ?_) (Ev.ret rfl)
      simp only [spec_l1Pairs.l0]; rw [if_neg (by omega)]
    · refine Ev.step (f := fun _ => some true) (fun k => ?_) (Ev.ret rfl)
      simp only [impl_pairsOk.l0]; rw [if_neg (by omega)]
  · rintro i hi ⟨c, h1, h2, hc⟩
    obtain ⟨b, hb, hR⟩ := pairShape_ev l i hi hl c
    refine ⟨b, Ev.step (f := fun k => pairShape l i hi (spec_l1Pairs.l0 k l ((i + 1 : Nat) : Int))) (fun k => ?_) (hR _ h1), Ev.step (f := fun k => pairShape l i hi (impl_pairsOk.l0 k l l (l.length : Int) ((i + 1 : Nat) : Int))) (fun k => ?_) (hR _ h2), ?_⟩
    · simp only [spec_l1Pairs.l0]
      rw [if_pos (by omega), if_pos (by omega), rd58_lt hi, l6In_eq, l1Val_eq, show wrap64 ((i : Int) + 1) = ((i + 1 : Nat) : Int) from wrap_in (by omega) (by omega)]; rfl
    · simp only [impl_pairsOk.l0]
      rw [if_pos (by omega), if_pos (by omega), if_pos (by omega), rd58_lt hi, isKey_eq, isVal_eq, show wrap64 ((i : Int) + 1) = ((i + 1 : Nat) : Int) from wrap_in (by omega) (by omega)]; rfl
    · rw [hb, hc]
      constructor
      · rintro ⟨ha, hr⟩ j hj hij
        by_cases he : i = j
        · subst he; exact ha
        · exact hr j hj (by omega)
      · intro hr
        exact ⟨hr i hi (Nat.le_refl _), fun j hj hij => hr j hj (by omega)⟩
theorem pairsOk_ev (l : List S48) : ∃ b : Bool, Ev (fun k => spec_l1Pairs.f k l) b ∧ Ev (fun k => impl_pairsOk.f k l) b ∧ (b = true ↔ PairsOk l) := by
  unfold spec_l1Pairs.f impl_pairsOk.f PairsOk
  by_cases hl : l.length ≤ 32
  · obtain ⟨b, h1, h2, hb⟩ := pairs_loop l hl 0 (by omega)
    exact ⟨b, Ev.neg (by omega) h1, Ev.neg (by omega) h2, by rw [hb]; simp [hl]⟩
  · exact ⟨false, Ev.pos (by omega) (Ev.ret rfl), Ev.pos (by omega) (Ev.ret rfl), by simp; omega⟩
end Go.Proofs.Ytdjiclhjficgfaa.PB
