/- What the parts of books come to, on both sides. -/
import Derived.Test.YtdjiclhjficgfaaPairSa
import Derived.Test.YtdjiclhjficgfaaMapQa
import Derived.Test.YtdjiclhjficgfaaPBx17
import Derived.Test.YtdjiclhjficgfaaPBx10
import Derived.Test.YtdjiclhjficgfaaPBx11
import Derived.Test.YtdjiclhjficgfaaPBx18
import Derived.Test.YtdjiclhjficgfaaPBx12
namespace Go.Proofs.Ytdjiclhjficgfaa.PB
open Go.RowKit Go.Proofs.Ytdjiclhjficgfaa.PB Go.Proofs.YtdjiclhjficgfaaW.PrintWords Go.Proofs.YtdjiclhjficgfaaW.PrintLast
set_option linter.unusedVariables false
set_option linter.unusedSimpArgs false
theorem store_ev (l : List S48) (hl : l.length ≤ 1048576) : ∃ b : Bool, Ev (fun k => spec_l3StoreOk.f k l) b ∧ Ev (fun k => impl_storeOk.f k l) b := by
  obtain ⟨c, h1, h2, _⟩ := pairsOk_ev l
  refine ⟨c && !l.any (fun p => decide (p.f1 = 0)), ?_, ?_⟩
  · unfold spec_l3StoreOk.f
    have key : ∀ i, i ≤ l.length → Ev (fun k => spec_l3StoreOk.l0 k l (i : Int)) (c && !(l.drop i).any (fun p => decide (p.f1 = 0))) := by
      refine loop_down l.length ?_ ?_
      · refine Ev.step (fun k => by rw [spec_l3StoreOk.l0]) ?_
        rw [List.drop_of_length_le (Nat.le_refl _)]
        exact Ev.neg (by omega) (Ev.bind h1 (Ev.ret (by simp)))
      · intro i hi ih
        have hw : wrap64 ((i : Int) + 1) = ((i + 1 : Nat) : Int) := wrap_in (by omega) (by omega)
        refine Ev.step (fun k => by rw [spec_l3StoreOk.l0]) ?_
        refine Ev.pos (by omega) (Ev.pos (by omega) ?_)
        rw [rd58_lt hi, hw, show (l.drop i).any (fun p => decide (p.f1 = 0)) = (decide (l[i].f1 = 0) || (l.drop (i + 1)).any (fun p => decide (p.f1 = 0))) from by rw [List.drop_eq_getElem_cons hi]; rfl]
        by_cases h : l[i].f1 = 0
        · rw [decide_eq_true h]
          exact Ev.pos h (Ev.ret (by rw [Bool.true_or]; cases c <;> rfl))
        · rw [decide_eq_false h]
          exact Ev.neg h ih
    simpa using key 0 (by omega)
  · unfold impl_storeOk.f
    cases c with
    | true => exact Ev.bind h2 (Ev.pos rfl (Ev.eq rfl (Ev.ret (by simp))))
    | false => exact Ev.bind h2 (Ev.neg (by decide) (Ev.ret rfl))
def valB (x : Int) : Bool := decide (-9999 ≤ x ∧ x ≤ 9999)
def valsB (l : List Int) : Bool := decide (l.length ≤ 6) && l.all valB
theorem spec_vals_ev (l : List Int) (hl : l.length ≤ 1048576) : Ev (fun k => spec_l3Vals.f k l) (valsB l) := by
  unfold spec_l3Vals.f valsB
  by_cases h6 : l.length ≤ 6
  · rw [decide_eq_true h6, Bool.true_and]
    refine Ev.neg (by omega) ?_
    have key : ∀ i, i ≤ l.length → Ev (fun k => spec_l3Vals.l0 k l (i : Int)) ((l.drop i).all valB) := by
      refine loop_down l.length ?_ ?_
      · refine Ev.step (fun k => by rw [spec_l3Vals.l0]) ?_
        rw [List.drop_of_length_le (Nat.le_refl _)]
        exact Ev.neg (by omega) (Ev.ret rfl)
      · intro i hi ih
        have hw : wrap64 ((i : Int) + 1) = ((i + 1 : Nat) : Int) := wrap_in (by omega) (by omega)
        refine Ev.step (fun k => by rw [spec_l3Vals.l0]) ?_
        refine Ev.pos (by omega) (Ev.pos (by omega) ?_)
        rw [rd_lt hi, hw, all_drop _ _ _ hi]
        refine Ev.eq (l1Val_eq _) ?_
        by_cases h : -9999 ≤ l[i] ∧ l[i] ≤ 9999
        · refine Ev.pos (by simpa using h) (evTo ih ?_)
          simp [valB, h]
        · exact Ev.neg (by simpa using h) (Ev.ret (by simp only [valB, decide_eq_false h, Bool.false_and]))
    simpa using key 0 (by omega)
  · rw [decide_eq_false h6, Bool.false_and]
    exact Ev.pos (by omega) (Ev.ret rfl)
theorem impl_vals_ev (l : List Int) (hl : l.length ≤ 1048576) : Ev (fun k => impl_valsOk.f k l) (valsB l) := by
  unfold impl_valsOk.f valsB
  have key : ∀ i, i ≤ l.length → Ev (fun k => impl_valsOk.l0 k l l (l.length : Int) (i : Int)) (decide (l.length ≤ 6) && (l.drop i).all valB) := by
    refine loop_down l.length ?_ ?_
    · refine Ev.step (fun k => by rw [impl_valsOk.l0]) ?_
      rw [List.drop_of_length_le (Nat.le_refl _)]
      refine Ev.neg (by omega) (Ev.ret ?_)
      rw [List.all_nil, Bool.and_true]
      exact decide_eq_decide.2 (by omega)
    · intro i hi ih
      have hw : wrap64 ((i : Int) + 1) = ((i + 1 : Nat) : Int) := wrap_in (by omega) (by omega)
      refine Ev.step (fun k => by rw [impl_valsOk.l0]) ?_
      refine Ev.pos (by omega) (Ev.pos (by omega) (Ev.pos (by omega) ?_))
      rw [rd_lt hi, hw, all_drop _ _ _ hi]
      refine Ev.eq (isVal_eq _) ?_
      by_cases h : -9999 ≤ l[i] ∧ l[i] ≤ 9999
      · refine Ev.pos (by simpa using h) (evTo ih ?_)
        simp [valB, h]
      · exact Ev.neg (by simpa using h) (Ev.ret (by simp only [valB, decide_eq_false h, Bool.false_and, Bool.and_false]))
  simpa using key 0 (by omega)
theorem rdSaid {l : List S108} {i : Nat} (h : i < l.length) : rd_T108 l (i : Int) = l[i] := by simp [rd_T108, List.getD_eq_getElem?_getD, List.getElem?_eq_getElem h]
def saidB (s : S108) : Bool := decide (0 ≤ s.f0 ∧ s.f0 ≤ 2) && (decide (1 ≤ s.f1 ∧ s.f1 ≤ 99) && (decide (0 ≤ s.f2 ∧ s.f2 ≤ 9) && valsB s.f3))
def saidShape (l : List S108) (i : Nat) (r : Option Bool) : Option Bool :=
  if (i : Int) > 0 then (if 0 ≤ wrap64 ((i : Int) - 1) then (if wrap64 ((i : Int) - 1) < (l.length : Int) then (if (rd_T108 l (wrap64 ((i : Int) - 1))).f0 ≥ (rd_T108 l (i : Int)).f0 then some false else r) else none) else none) else r
theorem saidShape_ev (l : List S108) (i : Nat) (h : i < l.length) (hl : l.length ≤ 1048576) (c : Bool) : ∃ b : Bool, ∀ R : Nat → Option Bool, Ev R c → Ev (fun k => saidShape l i (R k)) b := by
  unfold saidShape
  by_cases h0 : 0 < i
  · have hw : wrap64 ((i : Int) - 1) = ((i - 1 : Nat) : Int) := by rw [wrap_in (by omega) (by omega)]; omega
    rw [hw, rdSaid h, rdSaid (show i - 1 < l.length by omega)]
    by_cases ha : (l[i - 1]'(by omega)).f0 ≥ l[i].f0
    · exact ⟨false, fun R hR => Ev.pos (by omega) (Ev.pos (by omega) (Ev.pos (by omega) (Ev.pos ha (Ev.ret rfl))))⟩
    · exact ⟨c, fun R hR => Ev.pos (by omega) (Ev.pos (by omega) (Ev.pos (by omega) (Ev.neg ha hR)))⟩
  · exact ⟨c, fun R hR => Ev.neg (by omega) hR⟩
theorem Ev.and {f g : Nat → Option Bool} {b c : Bool} (h : Ev f b) (k : Ev g c) : Ev (fun n => (f n).bind fun t => if t = true then g n else some false) (b && c) := by
  refine Ev.bind h ?_
  cases b with
  | true => exact Ev.pos rfl k
  | false => exact Ev.neg (by decide) (Ev.ret rfl)
theorem isSession_eq (n : Int) : impl_isSession.f n = some (decide (0 ≤ n ∧ n ≤ 2)) := by
  unfold impl_isSession.f
  rw [within_eq]; rfl
theorem isCode_eq (n : Int) : impl_isCode.f n = some (decide (0 ≤ n ∧ n ≤ 9)) := by
  unfold impl_isCode.f
  rw [within_eq]; rfl
theorem impl_said_ev (s : S108) (hl : s.f3.length ≤ 1048576) : Ev (fun k => impl_saidOk.f k s.f0 s.f1 s.f2 s.f3) (saidB s) := by
  unfold impl_saidOk.f saidB
  rw [isSession_eq, isCode_eq, within_eq]
  exact Ev.and (Ev.ret rfl) (Ev.and (Ev.ret rfl) (Ev.and (Ev.ret rfl) (Ev.bind (impl_vals_ev _ hl) (Ev.ret rfl))))
theorem said_loop (l : List S108) (hl : l.length ≤ 1048576) (hin : ∀ s ∈ l, s.f3.length ≤ 1048576) (a v : Int) (m : List Int) (p : List S48) : ∀ i, i ≤ l.length → ∃ b : Bool, Ev (fun k => spec_l3SaidOk.l0 k l (i : Int)) b ∧ Ev (fun k => impl_BooksOk.l0 k l (l.length : Int) (i : Int) a v m p l) b := by
  refine loop_down l.length ?_ ?_
  · refine ⟨true, ?_, ?_⟩
    · refine Ev.step (fun k => by rw [spec_l3SaidOk.l0]) ?_
      exact Ev.neg (by omega) (Ev.ret rfl)
    · refine Ev.step (fun k => by rw [impl_BooksOk.l0]) ?_
      exact Ev.neg (by omega) (Ev.ret rfl)
  · rintro i hi ⟨c, h1, h2⟩
    obtain ⟨b, hR⟩ := saidShape_ev l i hi hl c
    have hw : wrap64 ((i : Int) + 1) = ((i + 1 : Nat) : Int) := wrap_in (by omega) (by omega)
    have hlen := hin _ (List.getElem_mem hi)
    have r1 := hR _ h1
    have r2 := hR _ h2
    unfold saidShape at r1 r2
    rw [rdSaid hi] at r1 r2
    refine ⟨saidB l[i] && b, ?_, ?_⟩
    · refine Ev.step (fun k => by rw [spec_l3SaidOk.l0]) ?_
      refine Ev.pos (by omega) (Ev.pos (by omega) ?_)
      rw [rdSaid hi, hw, l6In_eq, l6In_eq, l6In_eq]
      have := Ev.and (f := fun _ => some (decide (0 ≤ l[i].f0 ∧ l[i].f0 ≤ 2))) (Ev.ret rfl) (Ev.and (f := fun _ => some (decide (1 ≤ l[i].f1 ∧ l[i].f1 ≤ 99))) (Ev.ret rfl) (Ev.and (f := fun _ => some (decide (0 ≤ l[i].f2 ∧ l[i].f2 ≤ 9))) (Ev.ret rfl) (Ev.and (spec_vals_ev l[i].f3 hlen) r1)))
      refine evTo this ?_
      simp only [saidB, Bool.and_assoc]
    · refine Ev.step (fun k => by rw [impl_BooksOk.l0]) ?_
      refine Ev.pos (by omega) (Ev.pos (by omega) (Ev.pos (by omega) ?_))
      rw [rdSaid hi, hw]
      exact Ev.and (impl_said_ev l[i] hlen) r2
theorem books_ev (a v : Int) (m : List Int) (p : List S48) (l : List S108) (hm : m.length ≤ 1048576) (hp : p.length ≤ 1048576) (hl : l.length ≤ 1048576) (hin : ∀ s ∈ l, s.f3.length ≤ 1048576) :
    ∃ b : Bool, Ev (fun k => spec_BooksOk.f k a v m p l) b ∧ Ev (fun k => impl_BooksOk.f k a v m p l) b := by
  obtain ⟨s, s1, s2⟩ := store_ev p hp
  obtain ⟨d, d1, d2⟩ := said_loop l hl hin a v m p 0 (by omega)
  have d3 : Ev (fun k => spec_l3SaidOk.f k l) d := by unfold spec_l3SaidOk.f; exact d1
  have m1 := spec_MapOk_ev v m (by omega)
  have m2 := impl_MapOk_ev v m (by omega)
  refine ⟨decide (0 ≤ a ∧ a ≤ 60) && (mapOk v m && (s && d)), ?_, ?_⟩
  · unfold spec_BooksOk.f
    rw [l6In_eq]
    exact Ev.and (Ev.ret rfl) (Ev.and m1 (Ev.and s1 (Ev.bind d3 (Ev.ret rfl))))
  · have no : Ev (fun k => impl_BooksOk.j0 k true a v m p l) false := by
      refine Ev.step (fun k => by rw [impl_BooksOk.j0]) ?_
      exact Ev.pos rfl (Ev.ret rfl)
    have yes : Ev (fun k => impl_BooksOk.j0 k false a v m p l) d := by
      refine Ev.step (fun k => by rw [impl_BooksOk.j0]) ?_
      exact Ev.neg (by decide) d2
    unfold impl_BooksOk.f
    rw [within_eq]
    refine Ev.eq rfl ?_
    cases h1 : decide (0 ≤ a ∧ a ≤ 60) with
    | false => exact Ev.neg (by decide) no
    | true =>
      refine Ev.pos rfl (Ev.bind m2 ?_)
      cases h2 : mapOk v m with
      | false => exact Ev.neg (by decide) no
      | true =>
        refine Ev.pos rfl (Ev.bind s2 ?_)
        cases s with
        | false => exact no
        | true => exact yes
end Go.Proofs.Ytdjiclhjficgfaa.PB
