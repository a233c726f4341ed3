/- Words: the parts that copies, compares and guards are made of. -/
import Derived.Test.YtbjdnfgalopfiaaBase
import Derived.Test.YtbjdnfgalopfiaaPXx5
import Derived.Test.YtbjdnfgalopfiaaPXx13
import Derived.Test.YtbjdnfgalopfiaaPXx4
import Derived.Test.YtbjdnfgalopfiaaPXx8
import Derived.Test.YtbjdnfgalopfiaaPXx16
import Derived.Test.YtbjdnfgalopfiaaPXx7
import Derived.Test.YtbjdnfgalopfiaaPXx15
import Derived.Test.YtbjdnfgalopfiaaPXx11
namespace Go.Proofs.Ytbjdnfgalopfiaa.PB
open Go.RowKit Go.Proofs.Ytbjdnfgalopfiaa.PX Go.Proofs.YtbjdnfgalopfiaaW.PrintWords Go.Proofs.YtbjdnfgalopfiaaW.PrintLast
set_option linter.unusedVariables false
set_option linter.unusedSimpArgs false
theorem l6In_eq (n a b : Int) : spec_l6In.f n a b = some (decide (a ≤ n ∧ n ≤ b)) := by
  unfold spec_l6In.f
  by_cases h : a ≤ n <;> simp [h]
theorem within_eq (n a b : Int) : impl_within.f n a b = some (decide (a ≤ n ∧ n ≤ b)) := by
  unfold impl_within.f
  by_cases h : a ≤ n <;> simp [h]
theorem rd68_lt {l : List S68} {i : Nat} (h : i < l.length) : rd_T68 l (i : Int) = l[i] := by simp [rd_T68, List.getD_eq_getElem?_getD, List.getElem?_eq_getElem h]
theorem isKey_eq (n : Int) : impl_isKey.f n = some (decide (0 ≤ n ∧ n ≤ 31)) := by
  unfold impl_isKey.f
  rw [within_eq]; rfl
theorem isVal_eq (n : Int) : impl_isVal.f n = some (decide (-9999 ≤ n ∧ n ≤ 9999)) := by
  unfold impl_isVal.f
  rw [within_eq]; rfl
theorem l1Val_eq (n : Int) : spec_l1Val.f n = some (decide (-9999 ≤ n ∧ n ≤ 9999)) := by
  unfold spec_l1Val.f
  rw [l6In_eq]; rfl
def PairAt (l : List S68) (j : Nat) (h : j < l.length) : Prop := (0 ≤ l[j].f0 ∧ l[j].f0 ≤ 31) ∧ (-9999 ≤ l[j].f1 ∧ l[j].f1 ≤ 9999) ∧ (0 < j → (l[j - 1]'(by omega)).f0 < l[j].f0)
def PairsOk (l : List S68) : Prop := l.length ≤ 32 ∧ ∀ j (h : j < l.length), PairAt l j h
def pairShape (l : List S68) (i : Nat) (h : i < l.length) (r : Option Bool) : Option Bool :=
  if decide (0 ≤ l[i].f0 ∧ l[i].f0 ≤ 31) = true then (if decide (-9999 ≤ l[i].f1 ∧ l[i].f1 ≤ 9999) = true then (if (i : Int) > 0 then (if 0 ≤ wrap64 ((i : Int) - 1) then (if wrap64 ((i : Int) - 1) < (l.length : Int) then (if (rd_T68 l (wrap64 ((i : Int) - 1))).f0 ≥ l[i].f0 then some false else r) else none) else none) else r) else some false) else some false
theorem pairShape_ev (l : List S68) (i : Nat) (h : i < l.length) (hl : l.length ≤ 32) (c : Bool) : ∃ b : Bool, (b = true ↔ PairAt l i h ∧ c = true) ∧ ∀ R : Nat → Option Bool, Ev R c → Ev (fun k => pairShape l i h (R k)) b := by
  unfold pairShape PairAt
  by_cases hk : 0 ≤ l[i].f0 ∧ l[i].f0 ≤ 31
  · by_cases hv : -9999 ≤ l[i].f1 ∧ l[i].f1 ≤ 9999
    · by_cases h0 : 0 < i
      · have hw : wrap64 ((i : Int) - 1) = ((i - 1 : Nat) : Int) := by rw [wrap_in (by omega) (by omega)]; omega
        rw [hw, rd68_lt (show i - 1 < l.length by omega)]
        by_cases ha : (l[i - 1]'(by omega)).f0 < l[i].f0
        · exact ⟨c, by simp [hk, hv, ha], fun R hR => Ev.pos (by simpa using hk) (Ev.pos (by simpa using hv) (Ev.pos (by omega) (Ev.pos (by omega) (Ev.pos (by omega) (Ev.neg (by omega) hR)))))⟩
        · exact ⟨false, by simp [h0]; intros; omega, fun R hR => Ev.pos (by simpa using hk) (Ev.pos (by simpa using hv) (Ev.pos (by omega) (Ev.pos (by omega) (Ev.pos (by omega) (Ev.pos (by omega) (Ev.ret rfl))))))⟩
      · exact ⟨c, by simp [hk, hv, h0], fun R hR => Ev.pos (by simpa using hk) (Ev.pos (by simpa using hv) (Ev.neg (by omega) hR))⟩
    · exact ⟨false, by simp [hv], fun R hR => Ev.pos (by simpa using hk) (Ev.neg (by simpa using hv) (Ev.ret rfl))⟩
  · exact ⟨false, by simp [hk], fun R hR => Ev.neg (by simpa using hk) (Ev.ret rfl)⟩
theorem pairs_loop (l : List S68) (hl : l.length ≤ 32) : ∀ i, i ≤ l.length → ∃ b : Bool, Ev (fun k => spec_l1Pairs.l0 k l (i : Int)) b ∧ Ev (fun k => impl_pairsOk.l0 k l l (l.length : Int) (i : Int)) b ∧ (b = true ↔ ∀ j (h : j < l.length), i ≤ j → PairAt l j h) := by
  refine loop_down l.length ?_ ?_
  · refine ⟨true, ?_, ?_, by simp; intros; omega⟩
    · refine Ev.step (f := fun _ => some true) (fun k => ?_) (Ev.ret rfl)
      simp only [spec_l1Pairs.l0]; rw [if_neg (by omega)]
    · refine Ev.step (f := fun _ => some true) (fun k => ?_) (Ev.ret rfl)
      simp only [impl_pairsOk.l0]; rw [if_neg (by omega)]
  · rintro i hi ⟨c, h1, h2, hc⟩
    obtain ⟨b, hb, hR⟩ := pairShape_ev l i hi hl c
    refine ⟨b, Ev.step (f := fun k => pairShape l i hi (spec_l1Pairs.l0 k l ((i + 1 : Nat) : Int))) (fun k => ?_) (hR _ h1), Ev.step (f := fun k => pairShape l i hi (impl_pairsOk.l0 k l l (l.length : Int) ((i + 1 : Nat) : Int))) (fun k => ?_) (hR _ h2), ?_⟩
    · simp only [spec_l1Pairs.l0]
      rw [if_pos (by omega), if_pos (by omega), rd68_lt hi, l6In_eq, l1Val_eq, show wrap64 ((i : Int) + 1) = ((i + 1 : Nat) : Int) from wrap_in (by omega) (by omega)]; rfl
    · simp only [impl_pairsOk.l0]
      rw [if_pos (by omega), if_pos (by omega), if_pos (by omega), rd68_lt hi, isKey_eq, isVal_eq, show wrap64 ((i : Int) + 1) = ((i + 1 : Nat) : Int) from wrap_in (by omega) (by omega)]; rfl
    · rw [hb, hc]
      constructor
      · rintro ⟨ha, hr⟩ j hj hij
        by_cases he : i = j
        · subst he; exact ha
        · exact hr j hj (by omega)
      · intro hr
        exact ⟨hr i hi (Nat.le_refl _), fun j hj hij => hr j hj (by omega)⟩
theorem pairsOk_ev (l : List S68) : ∃ b : Bool, Ev (fun k => spec_l1Pairs.f k l) b ∧ Ev (fun k => impl_pairsOk.f k l) b ∧ (b = true ↔ PairsOk l) := by
  unfold spec_l1Pairs.f impl_pairsOk.f PairsOk
  by_cases hl : l.length ≤ 32
  · obtain ⟨b, h1, h2, hb⟩ := pairs_loop l hl 0 (by omega)
    exact ⟨b, Ev.neg (by omega) h1, Ev.neg (by omega) h2, by rw [hb]; simp [hl]⟩
  · exact ⟨false, Ev.pos (by omega) (Ev.ret rfl), Ev.pos (by omega) (Ev.ret rfl), by simp; omega⟩
def conv (l : List S75) : List S68 := l.map (fun p => ⟨p.f0, p.f1⟩)
theorem rd75_lt {l : List S75} {i : Nat} (h : i < l.length) : rd_T75 l (i : Int) = l[i] := by simp [rd_T75, List.getD_eq_getElem?_getD, List.getElem?_eq_getElem h]
theorem toPairS_ev (l : List S75) (hl : l.length ≤ 1048576) : Ev (fun k => laws_toPairS.f k l) (conv l) := by
  unfold laws_toPairS.f
  refine Ev.pos (by omega) (Ev.pos (by omega) ?_)
  have hcl : (conv l).length = l.length := by simp [conv]
  have key : ∀ i, i ≤ l.length → ∀ m : List S68, m.length = l.length → Ev (fun k => laws_toPairS.l0 k l m (i : Int)) (m.take i ++ (conv l).drop i) := by
    refine loop_down l.length ?_ ?_
    · intro m hm
      refine Ev.step (f := fun _ => some m) (fun k => ?_) (Ev.ret (by rw [List.take_of_length_le (by omega), List.drop_of_length_le (by omega)]; simp))
      simp only [laws_toPairS.l0]; rw [if_neg (by omega)]
    · intro i hi ih m hm
      refine Ev.step (f := fun k => laws_toPairS.l0 k l (m.set i ⟨l[i].f0, l[i].f1⟩) ((i + 1 : Nat) : Int)) (fun k => ?_) (evTo (ih (m.set i ⟨l[i].f0, l[i].f1⟩) (by simpa using hm)) ?_)
      · simp only [laws_toPairS.l0, laws_toPair.f]; rw [if_pos (by omega), if_pos (by omega)]; simp only [Option.bind_some]; rw [if_pos (by omega), rd75_lt hi, wrap_in (by omega) (by omega)]; simp
      · have hmi : i < m.length := by omega
        rw [List.take_succ_eq_append_getElem (by simpa using hmi), take_set_self, List.drop_eq_getElem_cons (show i < (conv l).length by omega)]
        simp [conv]
  have := key 0 (by omega) (List.replicate ((l.length : Int)).toNat z68) (by simp)
  simpa using this
theorem eqPairS_ev (l : List S68) (hl : l.length ≤ 1048576) : Ev (fun k => laws_eqPairS.f k l l) true := by
  unfold laws_eqPairS.f
  refine Ev.pos rfl ?_
  have key : ∀ i, i ≤ l.length → Ev (fun k => laws_eqPairS.l0 k l l (i : Int)) true := by
    refine loop_down l.length ?_ ?_
    · refine Ev.step (f := fun _ => some true) (fun k => ?_) (Ev.ret rfl)
      simp only [laws_eqPairS.l0]; rw [if_neg (by omega)]
    · intro i hi ih
      refine Ev.step (f := fun k => laws_eqPairS.l0 k l l ((i + 1 : Nat) : Int)) (fun k => ?_) ih
      simp only [laws_eqPairS.l0, laws_eqPair.f]; rw [if_pos (by omega), if_pos (by omega), if_pos (by omega), wrap_in (by omega) (by omega)]; simp
  simpa using key 0 (by omega)
theorem eqIntS_ev (l m : List Int) (hl : l.length ≤ 9223372036854775807) : Ev (fun k => laws_eqIntS.f k l m) (decide (l = m)) := by
  unfold laws_eqIntS.f
  by_cases hlen : l.length = m.length
  · refine Ev.pos (by omega) ?_
    have key : ∀ i, i ≤ l.length → Ev (fun k => laws_eqIntS.l0 k l m (i : Int)) (decide (l.drop i = m.drop i)) := by
      refine loop_down l.length ?_ ?_
      · refine Ev.step (f := fun _ => some true) (fun k => ?_) (Ev.ret (by simp [hlen]))
        simp only [laws_eqIntS.l0]; rw [if_neg (by omega)]
      · intro i hi ih
        refine Ev.step (f := fun k => if l[i] = m[i] then laws_eqIntS.l0 k l m ((i + 1 : Nat) : Int) else some false) (fun k => ?_) ?_
        · simp only [laws_eqIntS.l0]; rw [if_pos (by omega), if_pos (by omega), if_pos (by omega), rd_lt hi, rd_lt (show i < m.length by omega), wrap_in (by omega) (by omega)]; rfl
        · rw [List.drop_eq_getElem_cons hi, List.drop_eq_getElem_cons (show i < m.length by omega)]
          by_cases h : l[i] = m[i]
          · refine Ev.pos h (evTo ih ?_); simp only [List.cons.injEq, h, true_and]
          · exact Ev.neg h (Ev.ret (by simp only [List.cons.injEq, h, false_and, decide_false]))
    simpa using key 0 (by omega)
  · refine Ev.neg (by omega) (Ev.ret ?_)
    have : l ≠ m := fun h => hlen (by rw [h])
    simp [this]
theorem toIntS_ev (l : List Int) (hl : l.length ≤ 1048576) : Ev (fun k => laws_toIntS.f k l) l := by
  unfold laws_toIntS.f
  refine Ev.pos (by omega) (Ev.pos (by omega) ?_)
  have key : ∀ i, i ≤ l.length → ∀ m : List Int, m.length = l.length → Ev (fun k => laws_toIntS.l0 k l m (i : Int)) (m.take i ++ l.drop i) := by
    refine loop_down l.length ?_ ?_
    · intro m hm
      refine Ev.step (f := fun _ => some m) (fun k => ?_) (Ev.ret (by simp [← hm]))
      simp only [laws_toIntS.l0]; rw [if_neg (by omega)]
    · intro i hi ih m hm
      refine Ev.step (f := fun k => laws_toIntS.l0 k l (m.set i l[i]) ((i + 1 : Nat) : Int)) (fun k => ?_) (evTo (ih (m.set i l[i]) (by simpa using hm)) ?_)
      · simp only [laws_toIntS.l0]; rw [if_pos (by omega), if_pos (by omega), if_pos (by omega), rd_lt hi, wrap_in (by omega) (by omega)]; simp
      · rw [List.drop_eq_getElem_cons hi, List.take_succ_eq_append_getElem (by simp; omega), take_set_self]
        simp
  have := key 0 (by omega) (List.replicate ((l.length : Int)).toNat 0) (by simp)
  simpa using this
end Go.Proofs.Ytbjdnfgalopfiaa.PB
