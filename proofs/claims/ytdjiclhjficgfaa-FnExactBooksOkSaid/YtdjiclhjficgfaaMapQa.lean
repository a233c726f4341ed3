/- What MapOk and the copies of maps come to, in plain words. -/
import Derived.Test.YtdjiclhjficgfaaBase
import Derived.Test.YtdjiclhjficgfaaSmall
import Derived.Test.YtdjiclhjficgfaaPBx8
import Derived.Test.YtdjiclhjficgfaaPBx14
import Derived.Test.YtdjiclhjficgfaaPBx13
import Derived.Test.YtdjiclhjficgfaaPBx7
import Derived.Test.YtdjiclhjficgfaaPBx5
import Derived.Test.YtdjiclhjficgfaaPBx12
namespace Go.Proofs.Ytdjiclhjficgfaa.PB
open Go.RowKit Go.Proofs.Ytdjiclhjficgfaa.PB Go.Proofs.YtdjiclhjficgfaaW.PrintWords Go.Proofs.YtdjiclhjficgfaaW.PrintLast
set_option linter.unusedVariables false
theorem isHouse_eq (n : Int) : impl_isHouse.f n = some (decide (0 ≤ n ∧ n ≤ 2)) := by
  unfold impl_isHouse.f
  rw [within_eq]; rfl
def houseB (x : Int) : Bool := decide (0 ≤ x ∧ x ≤ 2)
def mapOk (v : Int) (l : List Int) : Bool := decide (1 ≤ v ∧ v ≤ 99) && decide (l.length = 8) && l.all houseB
theorem spec_MapOk_l0 (v : Int) (l : List Int) (hl : l.length ≤ 9223372036854775807) : ∀ i, i ≤ l.length → Ev (fun k => spec_MapOk.l0 k (i : Int) v l) ((l.drop i).all houseB) := by
  refine loop_down l.length ?_ ?_
  · refine Ev.step (f := fun _ => some true) (fun k => ?_) (Ev.ret (by simp))
    simp only [spec_MapOk.l0]; rw [if_neg (by omega)]
  · intro i hi ih
    refine Ev.step (f := fun k => if houseB l[i] = true then spec_MapOk.l0 k ((i + 1 : Nat) : Int) v l else some false) (fun k => ?_) ?_
    · simp only [spec_MapOk.l0]; rw [if_pos (by omega), if_pos (by omega), l6In_eq, rd_lt hi, wrap_in (by omega) (by omega)]; rfl
    · rw [all_drop _ _ _ hi]
      cases h : houseB l[i] with
      | true => refine Ev.pos rfl ?_; simpa using ih
      | false => exact Ev.neg (by simp) (Ev.ret (by simp))
theorem impl_MapOk_l0 (l : List Int) (hl : l.length ≤ 9223372036854775807) : ∀ i, i ≤ l.length → Ev (fun k => impl_MapOk.l0 k l (l.length : Int) (i : Int)) ((l.drop i).all houseB) := by
  refine loop_down l.length ?_ ?_
  · refine Ev.step (f := fun _ => some true) (fun k => ?_) (Ev.ret (by simp))
    simp only [impl_MapOk.l0]; rw [if_neg (by omega)]
  · intro i hi ih
    refine Ev.step (f := fun k => if houseB l[i] = true then impl_MapOk.l0 k l (l.length : Int) ((i + 1 : Nat) : Int) else some false) (fun k => ?_) ?_
    · simp only [impl_MapOk.l0]; rw [if_pos (by omega), if_pos (by omega), if_pos (by omega), isHouse_eq, rd_lt hi, wrap_in (by omega) (by omega)]; rfl
    · rw [all_drop _ _ _ hi]
      cases h : houseB l[i] with
      | true => refine Ev.pos rfl ?_; simpa using ih
      | false => exact Ev.neg (by simp) (Ev.ret (by simp))
theorem spec_MapOk_ev (v : Int) (l : List Int) (hl : l.length ≤ 9223372036854775807) : Ev (fun k => spec_MapOk.f k v l) (mapOk v l) := by
  unfold spec_MapOk.f
  refine Ev.eq (l6In_eq _ _ _) ?_
  have hj : ∀ b : Bool, Ev (fun k => spec_MapOk.j0 k b v l) (!b && l.all houseB) := by
    intro b
    refine Ev.step (f := fun k => if b = true then some false else spec_MapOk.l0 k 0 v l) (fun k => by simp only [spec_MapOk.j0]) ?_
    cases b with
    | true => exact Ev.pos rfl (Ev.ret rfl)
    | false => exact Ev.neg (by decide) (by simpa using spec_MapOk_l0 v l hl 0 (by omega))
  unfold mapOk
  by_cases hv : 1 ≤ v ∧ v ≤ 99
  · refine Ev.pos (by simpa using hv) (evTo (hj _) ?_)
    rw [show ((l.length : Int) != 8) = !decide (l.length = 8) by by_cases h : l.length = 8 <;> simp [h]; omega]
    simp [hv]
  · refine Ev.neg (by simpa using hv) (evTo (hj _) ?_)
    simp [hv]
theorem impl_MapOk_ev (v : Int) (l : List Int) (hl : l.length ≤ 9223372036854775807) : Ev (fun k => impl_MapOk.f k v l) (mapOk v l) := by
  unfold impl_MapOk.f
  refine Ev.eq (within_eq _ _ _) ?_
  have hj : ∀ b : Bool, Ev (fun k => impl_MapOk.j0 k b v l) (!b && l.all houseB) := by
    intro b
    refine Ev.step (f := fun k => if b = true then some false else impl_MapOk.l0 k l (l.length : Int) 0) (fun k => by simp only [impl_MapOk.j0]) ?_
    cases b with
    | true => exact Ev.pos rfl (Ev.ret rfl)
    | false => exact Ev.neg (by decide) (by simpa using impl_MapOk_l0 l hl 0 (by omega))
  unfold mapOk
  by_cases hv : 1 ≤ v ∧ v ≤ 99
  · refine Ev.pos (by simpa using hv) (evTo (hj _) ?_)
    rw [show ((l.length : Int) != 8) = !decide (l.length = 8) by by_cases h : l.length = 8 <;> simp [h]; omega]
    simp [hv]
  · refine Ev.neg (by simpa using hv) (evTo (hj _) ?_)
    simp [hv]
theorem eqIntS_ev (l m : List Int) (hl : l.length ≤ 9223372036854775807) : Ev (fun k => laws_eqIntS.f k l m) (decide (l = m)) := by
  unfold laws_eqIntS.f
  by_cases hlen : l.length = m.length
  · refine Ev.pos (by omega) ?_
    have key : ∀ i, i ≤ l.length → Ev (fun k => laws_eqIntS.l0 k l m (i : Int)) (decide (l.drop i = m.drop i)) := by
      refine loop_down l.length ?_ ?_
      · refine Ev.step (f := fun _ => some true) (fun k => ?_) (Ev.ret (by simp [hlen]))
        simp only [laws_eqIntS.l0]; rw [if_neg (by omega)]
      · intro i hi ih
        refine Ev.step (f := fun k => if l[i] = m[i] then laws_eqIntS.l0 k l m ((i + 1 : Nat) : Int) else some false) (fun k => ?_) ?_
        · simp only [laws_eqIntS.l0]; rw [if_pos (by omega), if_pos (by omega), if_pos (by omega), rd_lt hi, rd_lt (show i < m.length by omega), wrap_in (by omega) (by omega)]; rfl
        · rw [List.drop_eq_getElem_cons hi, List.drop_eq_getElem_cons (show i < m.length by omega)]
          by_cases h : l[i] = m[i]
          · refine Ev.pos h (evTo ih ?_); simp only [List.cons.injEq, h, true_and]
          · exact Ev.neg h (Ev.ret (by simp only [List.cons.injEq, h, false_and, decide_false]))
    simpa using key 0 (by omega)
  · refine Ev.neg (by omega) (Ev.ret ?_)
    have : l ≠ m := fun h => hlen (by rw [h])
    simp [this]
theorem toIntS_ev (l : List Int) (hl : l.length ≤ 1048576) : Ev (fun k => laws_toIntS.f k l) l := by
  unfold laws_toIntS.f
  refine Ev.pos (by omega) (Ev.pos (by omega) ?_)
  have key : ∀ i, i ≤ l.length → ∀ m : List Int, m.length = l.length → Ev (fun k => laws_toIntS.l0 k l m (i : Int)) (m.take i ++ l.drop i) := by
    refine loop_down l.length ?_ ?_
    · intro m hm
      refine Ev.step (f := fun _ => some m) (fun k => ?_) (Ev.ret (by simp [← hm]))
      simp only [laws_toIntS.l0]; rw [if_neg (by omega)]
    · intro i hi ih m hm
      refine Ev.step (f := fun k => laws_toIntS.l0 k l (m.set i l[i]) ((i + 1 : Nat) : Int)) (fun k => ?_) (evTo (ih (m.set i l[i]) (by simpa using hm)) ?_)
      · simp only [laws_toIntS.l0]; rw [if_pos (by omega), if_pos (by omega), if_pos (by omega), rd_lt hi, wrap_in (by omega) (by omega)]; simp
      · rw [List.drop_eq_getElem_cons hi, List.take_succ_eq_append_getElem (by simp; omega), take_set_self]
        simp
  have := key 0 (by omega) (List.replicate ((l.length : Int)).toNat 0) (by simp)
  simpa using this
theorem toMap_ev (v : Int) (l : List Int) (hl : l.length ≤ 1048576) : Ev (fun k => laws_toMap.f k v l) (v, l) := by
  unfold laws_toMap.f
  exact Ev.bind (toIntS_ev l hl) (Ev.ret rfl)
theorem szMap_eq (v : Int) (l : List Int) (hl : l.length ≤ 9223372036854775807) : laws_szMap.f v l 1048576 = some (if l.length ≤ 1048576 then 1048576 - (l.length : Int) else -1) := by
  unfold laws_szMap.f laws_szIntS.f
  rw [wrap_in (by omega) (by omega)]
  by_cases h : l.length ≤ 1048576
  · rw [if_neg (by omega), if_pos h]
    simp only [Option.bind_some]
    rw [if_neg (by omega)]
  · rw [if_pos (by omega), if_neg h]
    simp
theorem mapOk_len {v : Int} {l : List Int} (h : mapOk v l = true) : l.length = 8 := by
  simp [mapOk] at h; exact h.1.2
theorem mapOk_ver {v : Int} {l : List Int} (h : mapOk v l = true) : 1 ≤ v ∧ v ≤ 99 := by
  simp [mapOk] at h; exact h.1.1
end Go.Proofs.Ytdjiclhjficgfaa.PB
