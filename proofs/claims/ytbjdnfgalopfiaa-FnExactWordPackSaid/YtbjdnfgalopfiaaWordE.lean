/- What WordOk comes to on both sides; what a word that is ok is written as. -/
import Derived.Test.YtbjdnfgalopfiaaBaseE
import Derived.Test.YtbjdnfgalopfiaaE1
import Derived.Test.YtbjdnfgalopfiaaPEx19
import Derived.Test.YtbjdnfgalopfiaaPEx32
import Derived.Test.YtbjdnfgalopfiaaPEx31
import Derived.Test.YtbjdnfgalopfiaaPEx18
import Derived.Test.YtbjdnfgalopfiaaPEx26
import Derived.Test.YtbjdnfgalopfiaaPEx16
import Derived.Test.YtbjdnfgalopfiaaPEx22
import Derived.Test.YtbjdnfgalopfiaaPEx34
import Derived.Test.YtbjdnfgalopfiaaPEx27
import Derived.Test.YtbjdnfgalopfiaaPEx28
import Derived.Test.YtbjdnfgalopfiaaPEx33
import Derived.Test.YtbjdnfgalopfiaaPEx30
import Derived.Test.YtbjdnfgalopfiaaPEx17
import Derived.Test.YtbjdnfgalopfiaaPEx20
import Derived.Test.YtbjdnfgalopfiaaPEx21
namespace Go.Proofs.Ytbjdnfgalopfiaa.PB
open Go.RowKit Go.Proofs.Ytbjdnfgalopfiaa.PE Go.Proofs.YtbjdnfgalopfiaaW.PrintWords Go.Proofs.YtbjdnfgalopfiaaW.PrintLast
set_option linter.unusedVariables false
set_option linter.unusedSimpArgs false
theorem l6In_eq (n a b : Int) : spec_l6In.f n a b = some (decide (a ≤ n ∧ n ≤ b)) := by
  unfold spec_l6In.f
  by_cases h : a ≤ n <;> simp [h]
theorem within_eq (n a b : Int) : impl_within.f n a b = some (decide (a ≤ n ∧ n ≤ b)) := by
  unfold impl_within.f
  by_cases h : a ≤ n <;> simp [h]
theorem rd68_lt {l : List S68} {i : Nat} (h : i < l.length) : rd_T68 l (i : Int) = l[i] := by simp [rd_T68, List.getD_eq_getElem?_getD, List.getElem?_eq_getElem h]
theorem isKey_eq (n : Int) : impl_isKey.f n = some (decide (0 ≤ n ∧ n ≤ 31)) := by
  unfold impl_isKey.f
  rw [within_eq]; rfl
theorem isVal_eq (n : Int) : impl_isVal.f n = some (decide (-9999 ≤ n ∧ n ≤ 9999)) := by
  unfold impl_isVal.f
  rw [within_eq]; rfl
theorem l1Val_eq (n : Int) : spec_l1Val.f n = some (decide (-9999 ≤ n ∧ n ≤ 9999)) := by
  unfold spec_l1Val.f
  rw [l6In_eq]; rfl
def PairAt (l : List S68) (j : Nat) (h : j < l.length) : Prop := (0 ≤ l[j].f0 ∧ l[j].f0 ≤ 31) ∧ (-9999 ≤ l[j].f1 ∧ l[j].f1 ≤ 9999) ∧ (0 < j → (l[j - 1]'(by omega)).f0 < l[j].f0)
def PairsOk (l : List S68) : Prop := l.length ≤ 32 ∧ ∀ j (h : j < l.length), PairAt l j h
def pairShape (l : List S68) (i : Nat) (h : i < l.length) (r : Option Bool) : Option Bool :=
  if decide (0 ≤ l[i].f0 ∧ l[i].f0 ≤ 31) = true then (if decide (-9999 ≤ l[i].f1 ∧ l[i].f1 ≤ 9999) = true then (if (i : Int) > 0 then (if 0 ≤ wrap64 ((i : Int) - 1) then (if wrap64 ((i : Int) - 1) < (l.length : Int) then (if (rd_T68 l (wrap64 ((i : Int) - 1))).f0 ≥ l[i].f0 then some false else r) else none) else none) else r) else some false) else some false
theorem pairShape_ev (l : List S68) (i : Nat) (h : i < l.length) (hl : l.length ≤ 32) (c : Bool) : ∃ b : Bool, (b = true ↔ PairAt l i h ∧ c = true) ∧ ∀ R : Nat → Option Bool, Ev R c → Ev (fun k => pairShape l i h (R k)) b := by
  unfold pairShape PairAt
  by_cases hk : 0 ≤ l[i].f0 ∧ l[i].f0 ≤ 31
  · by_cases hv : -9999 ≤ l[i].f1 ∧ l[i].f1 ≤ 9999
    · by_cases h0 : 0 < i
      · have hw : wrap64 ((i : Int) - 1) = ((i - 1 : Nat) : Int) := by rw [wrap_in (by omega) (by omega)]; omega
        rw [hw, rd68_lt (show i - 1 < l.length by omega)]
        by_cases ha : (l[i - 1]'(by omega)).f0 < l[i].f0
        · exact ⟨c, by simp [hk, hv, ha], fun R hR => Ev.pos (by simpa using hk) (Ev.pos (by simpa using hv) (Ev.pos (by omega) (Ev.pos (by omega) (Ev.pos (by omega) (Ev.neg (by omega) hR)))))⟩
        · exact ⟨false, by simp [h0]; intros; omega, fun R hR => Ev.pos (by simpa using hk) (Ev.pos (by simpa using hv) (Ev.pos (by omega) (Ev.pos (by omega) (Ev.pos (by omega) (Ev.pos (by omega) (Ev.ret rfl))))))⟩
      · exact ⟨c, by simp [hk, hv, h0], fun R hR => Ev.pos (by simpa using hk) (Ev.pos (by simpa using hv) (Ev.neg (by omega) hR))⟩
    · exact ⟨false, by simp [hv], fun R hR => Ev.pos (by simpa using hk) (Ev.neg (by simpa using hv) (Ev.ret rfl))⟩
  · exact ⟨false, by simp [hk], fun R hR => Ev.neg (by simpa using hk) (Ev.ret rfl)⟩
theorem pairs_loop (l : List S68) (hl : l.length ≤ 32) : ∀ i, i ≤ l.length → ∃ b : Bool, Ev (fun k => spec_l1Pairs.l0 k l (i : Int)) b ∧ Ev (fun k => impl_pairsOk.l0 k l l (l.length : Int) (i : Int)) b ∧ (b = true ↔ ∀ j (h : j < l.length), i ≤ j → PairAt l j h) := by
  refine loop_down l.length ?_ ?_
  · refine ⟨true, ?_, ?_, by simp; intros; omega⟩
    · refine Ev.step (f := fun _ => some true) (fun k => ?_) (Ev.ret rfl)
      simp only [spec_l1Pairs.l0]; rw [if_neg (by omega)]
    · refine Ev.step (f := fun _ => some true) (fun k => ?_) (Ev.ret rfl)
      simp only [impl_pairsOk.l0]; rw [if_neg (by omega)]
  · rintro i hi ⟨c, h1, h2, hc⟩
    obtain ⟨b, hb, hR⟩ := pairShape_ev l i hi hl c
    refine ⟨b, Ev.step (f := fun k => pairShape l i hi (spec_l1Pairs.l0 k l ((i + 1 : Nat) : Int))) (fun k => ?_) (hR _ h1), Ev.step (f := fun k => pairShape l i hi (impl_pairsOk.l0 k l l (l.length : Int) ((i + 1 : Nat) : Int))) (fun k => ?_) (hR _ h2), ?_⟩
    · simp only [spec_l1Pairs.l0]
      rw [if_pos (by omega), if_pos (by omega), rd68_lt hi, l6In_eq, l1Val_eq, show wrap64 ((i : Int) + 1) = ((i + 1 : Nat) : Int) from wrap_in (by omega) (by omega)]; rfl
    · simp only [impl_pairsOk.l0]
      rw [if_pos (by omega), if_pos (by omega), if_pos (by omega), rd68_lt hi, isKey_eq, isVal_eq, show wrap64 ((i : Int) + 1) = ((i + 1 : Nat) : Int) from wrap_in (by omega) (by omega)]; rfl
    · rw [hb, hc]
      constructor
      · rintro ⟨ha, hr⟩ j hj hij
        by_cases he : i = j
        · subst he; exact ha
        · exact hr j hj (by omega)
      · intro hr
        exact ⟨hr i hi (Nat.le_refl _), fun j hj hij => hr j hj (by omega)⟩
theorem pairsOk_ev (l : List S68) : ∃ b : Bool, Ev (fun k => spec_l1Pairs.f k l) b ∧ Ev (fun k => impl_pairsOk.f k l) b ∧ (b = true ↔ PairsOk l) := by
  unfold spec_l1Pairs.f impl_pairsOk.f PairsOk
  by_cases hl : l.length ≤ 32
  · obtain ⟨b, h1, h2, hb⟩ := pairs_loop l hl 0 (by omega)
    exact ⟨b, Ev.neg (by omega) h1, Ev.neg (by omega) h2, by rw [hb]; simp [hl]⟩
  · exact ⟨false, Ev.pos (by omega) (Ev.ret rfl), Ev.pos (by omega) (Ev.ret rfl), by simp; omega⟩
theorem Ev.and {f g : Nat → Option Bool} {b c : Bool} (h : Ev f b) (k : Ev g c) : Ev (fun n => (f n).bind fun t => if t = true then g n else some false) (b && c) := by
  refine Ev.bind h ?_
  cases b with
  | true => exact Ev.pos rfl k
  | false => exact Ev.neg (by decide) (Ev.ret rfl)
theorem Ev.const {x : Option Bool} {b : Bool} (h : x = some b) : Ev (fun _ => x) b := Ev.congr (fun _ => h) (Ev.now b)
def inB (a b n : Int) : Bool := decide (a ≤ n ∧ n ≤ b)
def placeB (n : Int) : Bool := inB 0 2 n || (decide (n = 9) || inB 100 102 n)
theorem l12Place_eq (n : Int) : spec_l12Place.f n = some (placeB n) := by
  unfold spec_l12Place.f spec_l12House.f placeB inB
  rw [l6In_eq, l6In_eq]
  by_cases h1 : 0 ≤ n ∧ n ≤ 2
  · simp [h1]
  · by_cases h2 : n = 9
    · simp [h1, h2]
    · simp [h1, h2]
theorem all_drop {α : Type} (p : α → Bool) (l : List α) (i : Nat) (h : i < l.length) : (l.drop i).all p = (p l[i] && (l.drop (i + 1)).all p) := by
  rw [List.drop_eq_getElem_cons h]; rfl
theorem isHouse_eq (n : Int) : impl_isHouse.f n = some (inB 0 2 n) := by
  unfold impl_isHouse.f
  rw [within_eq]; rfl
theorem isClient_eq (n : Int) : impl_isClient.f n = some (inB 100 102 n) := by
  unfold impl_isClient.f
  rw [within_eq]; rfl
theorem arePlaces_ev (l : List Int) (hl : l.length ≤ 1048576) : Ev (fun k => impl_arePlaces.f k l) (l.all placeB) := by
  unfold impl_arePlaces.f
  have key : ∀ i, i ≤ l.length → Ev (fun k => impl_arePlaces.l0 k l (l.length : Int) (i : Int)) ((l.drop i).all placeB) := by
    refine loop_down l.length ?_ ?_
    · refine Ev.step (f := fun _ => some true) (fun k => ?_) (Ev.ret (by simp))
      simp only [impl_arePlaces.l0]; rw [if_neg (by omega)]
    · intro i hi ih
      refine Ev.step (f := fun k => if inB 0 2 l[i] = true then impl_arePlaces.l0 k l (l.length : Int) ((i + 1 : Nat) : Int) else (if l[i] = 9 then impl_arePlaces.l0 k l (l.length : Int) ((i + 1 : Nat) : Int) else (if inB 100 102 l[i] = true then impl_arePlaces.l0 k l (l.length : Int) ((i + 1 : Nat) : Int) else some false))) (fun k => ?_) ?_
      · simp only [impl_arePlaces.l0]; rw [if_pos (by omega), if_pos (by omega), if_pos (by omega), isHouse_eq, isClient_eq, rd_lt hi, wrap_in (by omega) (by omega)]; rfl
      · rw [all_drop _ _ _ hi, show placeB l[i] = (inB 0 2 l[i] || (decide (l[i] = 9) || inB 100 102 l[i])) from rfl]
        cases h1 : inB 0 2 l[i] with
        | true => exact Ev.pos rfl (by simpa using ih)
        | false =>
          refine Ev.neg (by decide) ?_
          by_cases h2 : l[i] = 9
          · exact Ev.pos h2 (by simpa [h2] using ih)
          · refine Ev.neg h2 ?_
            cases h3 : inB 100 102 l[i] with
            | true => exact Ev.pos rfl (by simpa using ih)
            | false => exact Ev.neg (by decide) (Ev.ret (by simp [h2]))
  simpa using key 0 (by omega)
theorem allWithin_ev (m : Int) (l : List Int) (hl : l.length ≤ 1048576) : Ev (fun k => impl_allWithin.f k m l) (l.all (inB 0 m)) := by
  unfold impl_allWithin.f
  have key : ∀ i, i ≤ l.length → Ev (fun k => impl_allWithin.l0 k m l (l.length : Int) (i : Int)) ((l.drop i).all (inB 0 m)) := by
    refine loop_down l.length ?_ ?_
    · refine Ev.step (f := fun _ => some true) (fun k => ?_) (Ev.ret (by simp))
      simp only [impl_allWithin.l0]; rw [if_neg (by omega)]
    · intro i hi ih
      refine Ev.step (f := fun k => if inB 0 m l[i] = true then impl_allWithin.l0 k m l (l.length : Int) ((i + 1 : Nat) : Int) else some false) (fun k => ?_) ?_
      · simp only [impl_allWithin.l0]; rw [if_pos (by omega), if_pos (by omega), if_pos (by omega), within_eq, rd_lt hi, wrap_in (by omega) (by omega)]; rfl
      · rw [all_drop _ _ _ hi]
        cases h1 : inB 0 m l[i] with
        | true => exact Ev.pos rfl (by simpa using ih)
        | false => exact Ev.neg (by decide) (Ev.ret (by simp))
  simpa using key 0 (by omega)
def valsB (l : List Int) : Bool := l.all (inB (-9999) 9999) && decide (l.length ≤ 6)
theorem valsOk_ev (l : List Int) (hl : l.length ≤ 1048576) : Ev (fun k => impl_valsOk.f k l) (valsB l) := by
  unfold impl_valsOk.f
  have key : ∀ i, i ≤ l.length → Ev (fun k => impl_valsOk.l0 k l l (l.length : Int) (i : Int)) ((l.drop i).all (inB (-9999) 9999) && decide (l.length ≤ 6)) := by
    refine loop_down l.length ?_ ?_
    · refine Ev.step (f := fun _ => some (decide ((l.length : Int) ≤ 6))) (fun k => ?_) (Ev.ret ?_)
      · simp only [impl_valsOk.l0]; rw [if_neg (by omega)]
      · rw [List.drop_of_length_le (Nat.le_refl _)]
        by_cases h : l.length ≤ 6
        · simp [h]; omega
        · simp [h]; omega
    · intro i hi ih
      refine Ev.step (f := fun k => if inB (-9999) 9999 l[i] = true then impl_valsOk.l0 k l l (l.length : Int) ((i + 1 : Nat) : Int) else some false) (fun k => ?_) ?_
      · simp only [impl_valsOk.l0]; rw [if_pos (by omega), if_pos (by omega), if_pos (by omega), isVal_eq, rd_lt hi, wrap_in (by omega) (by omega)]; rfl
      · rw [all_drop _ _ _ hi]
        cases h1 : inB (-9999) 9999 l[i] with
        | true => exact Ev.pos rfl (by simpa using ih)
        | false => exact Ev.neg (by decide) (Ev.ret (by simp))
  simpa [valsB] using key 0 (by omega)
theorem l3Vals_ev (l : List Int) (hl : l.length ≤ 1048576) : Ev (fun k => spec_l3Vals.f k l) (valsB l) := by
  unfold spec_l3Vals.f valsB
  by_cases h6 : l.length ≤ 6
  · refine Ev.neg (by omega) ?_
    have key : ∀ i, i ≤ l.length → Ev (fun k => spec_l3Vals.l0 k l (i : Int)) ((l.drop i).all (inB (-9999) 9999)) := by
      refine loop_down l.length ?_ ?_
      · refine Ev.step (f := fun _ => some true) (fun k => ?_) (Ev.ret (by simp))
        simp only [spec_l3Vals.l0]; rw [if_neg (by omega)]
      · intro i hi ih
        refine Ev.step (f := fun k => if inB (-9999) 9999 l[i] = true then spec_l3Vals.l0 k l ((i + 1 : Nat) : Int) else some false) (fun k => ?_) ?_
        · simp only [spec_l3Vals.l0]; rw [if_pos (by omega), if_pos (by omega), l1Val_eq, rd_lt hi, wrap_in (by omega) (by omega)]; rfl
        · rw [all_drop _ _ _ hi]
          cases h1 : inB (-9999) 9999 l[i] with
          | true => exact Ev.pos rfl (by simpa using ih)
          | false => exact Ev.neg (by decide) (Ev.ret (by simp))
    simpa [h6] using key 0 (by omega)
  · refine Ev.pos (by omega) (Ev.ret (by simp [h6]))
def slotsB (l : List Int) : Bool := (List.range l.length).all (fun i : Nat => risAt l (i : Int))
theorem l12Slots_ev (l : List Int) (hl : l.length ≤ 1048576) : Ev (fun k => spec_l12Slots.f k l) (slotsB l) := by
  unfold spec_l12Slots.f
  have key : ∀ i, i ≤ l.length → ∃ b : Bool, Ev (fun k => spec_l12Slots.l0 k l (i : Int)) b ∧ (b = true ↔ ∀ j, j < l.length → i ≤ j → risAt l (j : Int) = true) := by
    refine loop_down l.length ?_ ?_
    · refine ⟨true, Ev.step (f := fun _ => some true) (fun k => ?_) (Ev.ret rfl), by simp; intros; omega⟩
      simp only [spec_l12Slots.l0]; rw [if_neg (by omega)]
    · rintro i hi ⟨c, hc, hcc⟩
      have hw : wrap64 ((i : Int) + 1) = ((i + 1 : Nat) : Int) := wrap_in (by omega) (by omega)
      have hw1 : wrap64 ((i : Int) - 1) = (i : Int) - 1 := wrap_in (by omega) (by omega)
      have hup : risAt l (i : Int) = true → (c = true ↔ ∀ j, j < l.length → i ≤ j → risAt l (j : Int) = true) := by
        intro hr
        rw [hcc]
        constructor
        · intro h j hj hij
          by_cases he : i = j
          · subst he; exact hr
          · exact h j hj (by omega)
        · exact fun h j hj hij => h j hj (by omega)
      have hno : risAt l (i : Int) = false → (false = true ↔ ∀ j, j < l.length → i ≤ j → risAt l (j : Int) = true) := by
        intro hr
        constructor
        · intro h; cases h
        · intro h; have := h i hi (Nat.le_refl _); rw [hr] at this; cases this
      have hst : ∀ k, spec_l12Slots.l0 (k + 1) l (i : Int) = (if decide (0 ≤ rd l (i : Int) ∧ rd l (i : Int) ≤ 7) = true then (if (i : Int) > 0 then (if 0 ≤ (i : Int) - 1 then (if (i : Int) - 1 < (l.length : Int) then (if rd l ((i : Int) - 1) ≥ rd l (i : Int) then some false else spec_l12Slots.l0 k l ((i + 1 : Nat) : Int)) else none) else none) else spec_l12Slots.l0 k l ((i + 1 : Nat) : Int)) else some false) := by
        intro k
        simp only [spec_l12Slots.l0]; rw [if_pos (by omega), if_pos (by omega), l6In_eq, hw, hw1]; rfl
      by_cases hs : 0 ≤ rd l (i : Int) ∧ rd l (i : Int) ≤ 7
      · by_cases h0 : i = 0
        · have e0 : (i : Int) = 0 := by omega
          exact ⟨c, Ev.step hst (Ev.pos (by simpa using hs) (Ev.neg (by omega) hc)), hup (by simp only [risAt, decide_eq_true hs, decide_eq_true e0, Bool.true_or, Bool.and_self])⟩
        · by_cases hlt : rd l ((i : Int) - 1) < rd l (i : Int)
          · exact ⟨c, Ev.step hst (Ev.pos (by simpa using hs) (Ev.pos (by omega) (Ev.pos (by omega) (Ev.pos (by omega) (Ev.neg (by omega) hc))))), hup (by simp [risAt, hs, hlt])⟩
          · exact ⟨false, Ev.step hst (Ev.pos (by simpa using hs) (Ev.pos (by omega) (Ev.pos (by omega) (Ev.pos (by omega) (Ev.pos (by omega) (Ev.ret rfl)))))), hno (by simp [risAt, hs, hlt, h0])⟩
      · exact ⟨false, Ev.step hst (Ev.neg (by simpa using hs) (Ev.ret rfl)), hno (by simp [risAt, hs])⟩
  obtain ⟨b, hb, hbb⟩ := key 0 (by omega)
  refine evTo hb ?_
  rw [Bool.eq_iff_iff, hbb]
  unfold slotsB
  rw [List.all_eq_true]
  constructor
  · exact fun h j hj => h j (List.mem_range.1 hj) (Nat.zero_le _)
  · exact fun h j hj _ => h j (List.mem_range.2 hj)
def callB (a b c : Int) (t : ByteArray) (d e : Int) : Bool := inB 0 9999 a && (inB 0 9999 b && (inB 0 9999 c && (inB 0 9999 d && (inB 0 9999 e && decide ((t.size : Int) ≤ 80)))))
theorem l12Call_ev (a b c : Int) (t : ByteArray) (d e : Int) : Ev (fun _ => spec_l12Call.f a b c t d e) (callB a b c t d e) := by
  unfold spec_l12Call.f callB
  exact Ev.and (Ev.const (l6In_eq _ _ _)) (Ev.and (Ev.const (l6In_eq _ _ _)) (Ev.and (Ev.const (l6In_eq _ _ _)) (Ev.and (Ev.const (l6In_eq _ _ _)) (Ev.and (Ev.const (l6In_eq _ _ _)) (Ev.ret rfl)))))
def wordB (a0 a1 a2 a3 a4 a5 : Int) (l7 : List Int) (p : Bool) (a9 : Int) (l10 : List Int) (c : Bool) : Bool := inB 1 9 a0 && (placeB a1 && (placeB a2 && (inB 0 9999 a3 && (inB 0 9999 a4 && (inB 0 3 a5 && (slotsB l7 && (p && (inB 0 9 a9 && (valsB l10 && c)))))))))
theorem WordOk_ev (a0 a1 a2 a3 a4 a5 : Int) (a6 : Bool) (l7 : List Int) (l8 : List S68) (a9 : Int) (l10 : List Int) (a11 a12 a13 : Int) (t : ByteArray) (a15 a16 : Int) (h7 : l7.length ≤ 1048576) (h10 : l10.length ≤ 1048576) (p : Bool) (hp1 : Ev (fun k => spec_l1Pairs.f k l8) p) (hp2 : Ev (fun k => impl_pairsOk.f k l8) p) :
    Ev (fun k => spec_WordOk.f k a0 a1 a2 a3 a4 a5 a6 l7 l8 a9 l10 a11 a12 a13 t a15 a16) (wordB a0 a1 a2 a3 a4 a5 l7 p a9 l10 (callB a11 a12 a13 t a15 a16)) ∧ Ev (fun k => impl_WordOk.f k a0 a1 a2 a3 a4 a5 a6 l7 l8 a9 l10 a11 a12 a13 t a15 a16) (wordB a0 a1 a2 a3 a4 a5 l7 p a9 l10 (callB a11 a12 a13 t a15 a16)) := by
  unfold wordB
  refine ⟨?_, ?_⟩
  · unfold spec_WordOk.f
    exact Ev.and (Ev.const (l6In_eq _ _ _)) (Ev.and (Ev.const (l12Place_eq _)) (Ev.and (Ev.const (l12Place_eq _)) (Ev.and (Ev.const (l6In_eq _ _ _)) (Ev.and (Ev.const (l6In_eq _ _ _)) (Ev.and (Ev.const (l6In_eq _ _ _)) (Ev.and (l12Slots_ev l7 h7) (Ev.and hp1 (Ev.and (Ev.const (l6In_eq _ _ _)) (Ev.and (l3Vals_ev l10 h10) (Ev.bind (l12Call_ev _ _ _ _ _ _) (Ev.ret rfl)))))))))))
  · unfold impl_WordOk.f
    refine evTo (Ev.and (Ev.const (b := inB 1 9 a0) (within_eq _ _ _)) (Ev.and (arePlaces_ev _ (by simp)) (Ev.and (allWithin_ev _ _ (by simp)) (Ev.and (allWithin_ev _ _ (by simp)) (Ev.and (allWithin_ev _ _ (by simp)) (Ev.and (allWithin_ev _ _ (by simp)) (Ev.and (Ev.const (b := slotsB l7) rfl) (Ev.and hp2 (Ev.bind (valsOk_ev l10 h10) (Ev.ret rfl)))))))))) ?_
    have hsz : inB 0 80 (t.size : Int) = decide ((t.size : Int) ≤ 80) := by
      unfold inB
      by_cases h : (t.size : Int) ≤ 80
      · first | (simp [h]; done) | (simp [h]; omega)
      · simp [h]
    simp only [List.all_cons, List.all_nil, Bool.and_true, hsz]
    unfold callB
    ac_rfl
/-- All numbers of the word are small. -/
def okW (a0 a1 a2 a3 a4 a5 : Int) (l7 : List Int) (l8 : List S68) (a9 : Int) (l10 : List Int) (a11 a12 a13 : Int) (t : ByteArray) (a15 a16 : Int) : Prop :=
  (okN a0 ∧ okN a1 ∧ okN a2 ∧ okN a3 ∧ okN a4 ∧ okN a5 ∧ okN a9 ∧ okN a11 ∧ okN a12 ∧ okN a13 ∧ okN a15 ∧ okN a16) ∧ (∀ x ∈ l7, okN x) ∧ (∀ x ∈ l10, okN x) ∧ (∀ p ∈ l8, okN p.f0 ∧ okN p.f1) ∧ t.size ≤ 80
theorem inB_ok {a b n : Int} (h : inB a b n = true) (ha : -10000 ≤ a) (hb : b ≤ 10000) : okN n := by
  unfold inB at h
  have := of_decide_eq_true h
  unfold okN
  omega
theorem place_ok {n : Int} (h : placeB n = true) : okN n := by
  unfold placeB at h
  simp only [Bool.or_eq_true, decide_eq_true_eq] at h
  rcases h with h | h | h
  · exact inB_ok h (by omega) (by omega)
  · unfold okN; omega
  · exact inB_ok h (by omega) (by omega)
theorem word_ok {a0 a1 a2 a3 a4 a5 : Int} {l7 : List Int} {l8 : List S68} {p : Bool} {a9 : Int} {l10 : List Int} {a11 a12 a13 : Int} {t : ByteArray} {a15 a16 : Int} (hp : p = true → PairsOk l8) (h : wordB a0 a1 a2 a3 a4 a5 l7 p a9 l10 (callB a11 a12 a13 t a15 a16) = true) : okW a0 a1 a2 a3 a4 a5 l7 l8 a9 l10 a11 a12 a13 t a15 a16 := by
  unfold wordB callB at h
  simp only [Bool.and_eq_true] at h
  obtain ⟨b0, b1, b2, b3, b4, b5, b7, b8, b9, b10, c1, c2, c3, c4, c5, c6⟩ := h
  refine ⟨⟨inB_ok b0 (by omega) (by omega), place_ok b1, place_ok b2, inB_ok b3 (by omega) (by omega), inB_ok b4 (by omega) (by omega), inB_ok b5 (by omega) (by omega), inB_ok b9 (by omega) (by omega), inB_ok c1 (by omega) (by omega), inB_ok c2 (by omega) (by omega), inB_ok c3 (by omega) (by omega), inB_ok c4 (by omega) (by omega), inB_ok c5 (by omega) (by omega)⟩, ?_, ?_, ?_, ?_⟩
  · intro x hx
    obtain ⟨i, hi, rfl⟩ := List.getElem_of_mem hx
    unfold slotsB at b7
    rw [List.all_eq_true] at b7
    have q := b7 i (List.mem_range.2 hi)
    unfold risAt at q
    rw [rd_lt hi, Bool.and_eq_true] at q
    have := of_decide_eq_true q.1
    unfold okN
    omega
  · intro x hx
    unfold valsB at b10
    rw [Bool.and_eq_true, List.all_eq_true] at b10
    exact inB_ok (b10.1 x hx) (by omega) (by omega)
  · intro x hx
    obtain ⟨i, hi, rfl⟩ := List.getElem_of_mem hx
    obtain ⟨q1, q2, _⟩ := (hp b8).2 i hi
    unfold okN
    omega
  · have := of_decide_eq_true c6
    omega
def pairL (l : List S68) : List Int := l.flatMap (fun p => numB p.f0 ++ numB p.f1)
/-- What a word is written as. -/
def packL (a0 a1 a2 a3 a4 a5 : Int) (a6 : Bool) (l7 : List Int) (l8 : List S68) (a9 : Int) (l10 : List Int) (a11 a12 a13 : Int) (t : ByteArray) (a15 a16 : Int) : List Int :=
  [a0, a1, a2, a3, a4, a5, (if a6 = true then 1 else 0), a9].flatMap numB ++ ([a11, a12, a13, a15, a16, (t.size : Int)].flatMap numB ++ (bytesOf t ++ ((numB l7.length ++ l7.flatMap numB) ++ ((numB l10.length ++ l10.flatMap numB) ++ (numB l8.length ++ pairL l8)))))
theorem pairL_take {l : List S68} {k : Nat} (h : k < l.length) : pairL (l.take (k + 1)) = pairL (l.take k) ++ (numB l[k].f0 ++ numB l[k].f1) := by
  unfold pairL
  rw [List.take_succ_eq_append_getElem h, List.flatMap_append]
  simp
theorem pairL_len {l : List S68} (h : ∀ p ∈ l, okN p.f0 ∧ okN p.f1) : (pairL l).length ≤ 10 * l.length := by
  unfold pairL
  induction l with
  | nil => exact Nat.le_refl _
  | cons x xs ih =>
    rw [List.flatMap_cons, List.length_append, List.length_append, List.length_cons]
    have h1 := numB_len (h x List.mem_cons_self).1
    have h2 := numB_len (h x List.mem_cons_self).2
    have := ih (fun y hy => h y (List.mem_cons_of_mem _ hy))
    omega
/-- Both WordOk's answer b; where it is true, the word's numbers are small. -/
theorem word_both (a0 a1 a2 a3 a4 a5 : Int) (a6 : Bool) (l7 : List Int) (l8 : List S68) (a9 : Int) (l10 : List Int) (a11 a12 a13 : Int) (t : ByteArray) (a15 a16 : Int) (h7 : l7.length ≤ 1048576) (h10 : l10.length ≤ 1048576) :
    ∃ b : Bool, Ev (fun k => spec_WordOk.f k a0 a1 a2 a3 a4 a5 a6 l7 l8 a9 l10 a11 a12 a13 t a15 a16) b ∧ Ev (fun k => impl_WordOk.f k a0 a1 a2 a3 a4 a5 a6 l7 l8 a9 l10 a11 a12 a13 t a15 a16) b ∧ (b = true → okW a0 a1 a2 a3 a4 a5 l7 l8 a9 l10 a11 a12 a13 t a15 a16) := by
  obtain ⟨p, hp1, hp2, hp⟩ := pairsOk_ev l8
  obtain ⟨e1, e2⟩ := WordOk_ev a0 a1 a2 a3 a4 a5 a6 l7 l8 a9 l10 a11 a12 a13 t a15 a16 h7 h10 p hp1 hp2
  exact ⟨_, e1, e2, fun hb => word_ok hp.1 hb⟩
end Go.Proofs.Ytbjdnfgalopfiaa.PB
