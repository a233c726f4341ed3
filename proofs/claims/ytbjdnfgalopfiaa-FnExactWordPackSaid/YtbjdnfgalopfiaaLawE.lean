/- The plain law of FnExactWordPack: what its copies, marks and compares come to. -/
import Derived.Test.YtbjdnfgalopfiaaWordE
import Derived.Test.YtbjdnfgalopfiaaPackE
import Derived.Test.YtbjdnfgalopfiaaPEx5
import Derived.Test.YtbjdnfgalopfiaaPEx10
import Derived.Test.YtbjdnfgalopfiaaPEx15
import Derived.Test.YtbjdnfgalopfiaaPEx36
import Derived.Test.YtbjdnfgalopfiaaPEx39
import Derived.Test.YtbjdnfgalopfiaaPEx40
import Derived.Test.YtbjdnfgalopfiaaPEx41
namespace Go.Proofs.Ytbjdnfgalopfiaa.PB
open Go.RowKit Go.Proofs.Ytbjdnfgalopfiaa.PE Go.Proofs.YtbjdnfgalopfiaaW.PrintWords Go.Proofs.YtbjdnfgalopfiaaW.PrintLast Go.Proofs.YtbjdnfgalopfiaaW.PrintMore
set_option linter.unusedVariables false
set_option linter.unusedSimpArgs false
def conv (l : List S75) : List S68 := l.map (fun p => ⟨p.f0, p.f1⟩)
theorem rd75_lt {l : List S75} {i : Nat} (h : i < l.length) : rd_T75 l (i : Int) = l[i] := by simp [rd_T75, List.getD_eq_getElem?_getD, List.getElem?_eq_getElem h]
theorem toPairS_ev (l : List S75) (hl : l.length ≤ 1048576) : Ev (fun k => laws_toPairS.f k l) (conv l) := by
  unfold laws_toPairS.f
  refine Ev.pos (by omega) (Ev.pos (by omega) ?_)
  have hcl : (conv l).length = l.length := by simp [conv]
  have key : ∀ i, i ≤ l.length → ∀ m : List S68, m.length = l.length → Ev (fun k => laws_toPairS.l0 k l m (i : Int)) (m.take i ++ (conv l).drop i) := by
    refine loop_down l.length ?_ ?_
    · intro m hm
      refine Ev.step (f := fun _ => some m) (fun k => ?_) (Ev.ret (by rw [List.take_of_length_le (by omega), List.drop_of_length_le (by omega)]; simp))
      simp only [laws_toPairS.l0]; rw [if_neg (by omega)]
    · intro i hi ih m hm
      refine Ev.step (f := fun k => laws_toPairS.l0 k l (m.set i ⟨l[i].f0, l[i].f1⟩) ((i + 1 : Nat) : Int)) (fun k => ?_) (evTo (ih (m.set i ⟨l[i].f0, l[i].f1⟩) (by simpa using hm)) ?_)
      · simp only [laws_toPairS.l0, laws_toPair.f]; rw [if_pos (by omega), if_pos (by omega)]; simp only [Option.bind_some]; rw [if_pos (by omega), rd75_lt hi, wrap_in (by omega) (by omega)]; simp
      · have hmi : i < m.length := by omega
        rw [List.take_succ_eq_append_getElem (by simpa using hmi), take_set_self, List.drop_eq_getElem_cons (show i < (conv l).length by omega)]
        simp [conv]
  have := key 0 (by omega) (List.replicate ((l.length : Int)).toNat z68) (by simp)
  simpa using this
theorem eqPairS_ev (l : List S68) (hl : l.length ≤ 1048576) : Ev (fun k => laws_eqPairS.f k l l) true := by
  unfold laws_eqPairS.f
  refine Ev.pos rfl ?_
  have key : ∀ i, i ≤ l.length → Ev (fun k => laws_eqPairS.l0 k l l (i : Int)) true := by
    refine loop_down l.length ?_ ?_
    · refine Ev.step (f := fun _ => some true) (fun k => ?_) (Ev.ret rfl)
      simp only [laws_eqPairS.l0]; rw [if_neg (by omega)]
    · intro i hi ih
      refine Ev.step (f := fun k => laws_eqPairS.l0 k l l ((i + 1 : Nat) : Int)) (fun k => ?_) ih
      simp only [laws_eqPairS.l0, laws_eqPair.f]; rw [if_pos (by omega), if_pos (by omega), if_pos (by omega), wrap_in (by omega) (by omega)]; simp
  simpa using key 0 (by omega)
theorem eqIntS_ev (l m : List Int) (hl : l.length ≤ 9223372036854775807) : Ev (fun k => laws_eqIntS.f k l m) (decide (l = m)) := by
  unfold laws_eqIntS.f
  by_cases hlen : l.length = m.length
  · refine Ev.pos (by omega) ?_
    have key : ∀ i, i ≤ l.length → Ev (fun k => laws_eqIntS.l0 k l m (i : Int)) (decide (l.drop i = m.drop i)) := by
      refine loop_down l.length ?_ ?_
      · refine Ev.step (f := fun _ => some true) (fun k => ?_) (Ev.ret (by simp [hlen]))
        simp only [laws_eqIntS.l0]; rw [if_neg (by omega)]
      · intro i hi ih
        refine Ev.step (f := fun k => if l[i] = m[i] then laws_eqIntS.l0 k l m ((i + 1 : Nat) : Int) else some false) (fun k => ?_) ?_
        · simp only [laws_eqIntS.l0]; rw [if_pos (by omega), if_pos (by omega), if_pos (by omega), rd_lt hi, rd_lt (show i < m.length by omega), wrap_in (by omega) (by omega)]; rfl
        · rw [List.drop_eq_getElem_cons hi, List.drop_eq_getElem_cons (show i < m.length by omega)]
          by_cases h : l[i] = m[i]
          · refine Ev.pos h (evTo ih ?_); simp only [List.cons.injEq, h, true_and]
          · exact Ev.neg h (Ev.ret (by simp only [List.cons.injEq, h, false_and, decide_false]))
    simpa using key 0 (by omega)
  · refine Ev.neg (by omega) (Ev.ret ?_)
    have : l ≠ m := fun h => hlen (by rw [h])
    simp [this]
theorem toIntS_ev (l : List Int) (hl : l.length ≤ 1048576) : Ev (fun k => laws_toIntS.f k l) l := by
  unfold laws_toIntS.f
  refine Ev.pos (by omega) (Ev.pos (by omega) ?_)
  have key : ∀ i, i ≤ l.length → ∀ m : List Int, m.length = l.length → Ev (fun k => laws_toIntS.l0 k l m (i : Int)) (m.take i ++ l.drop i) := by
    refine loop_down l.length ?_ ?_
    · intro m hm
      refine Ev.step (f := fun _ => some m) (fun k => ?_) (Ev.ret (by simp [← hm]))
      simp only [laws_toIntS.l0]; rw [if_neg (by omega)]
    · intro i hi ih m hm
      refine Ev.step (f := fun k => laws_toIntS.l0 k l (m.set i l[i]) ((i + 1 : Nat) : Int)) (fun k => ?_) (evTo (ih (m.set i l[i]) (by simpa using hm)) ?_)
      · simp only [laws_toIntS.l0]; rw [if_pos (by omega), if_pos (by omega), if_pos (by omega), rd_lt hi, wrap_in (by omega) (by omega)]; simp
      · rw [List.drop_eq_getElem_cons hi, List.take_succ_eq_append_getElem (by simp; omega), take_set_self]
        simp
  have := key 0 (by omega) (List.replicate ((l.length : Int)).toNat 0) (by simp)
  simpa using this
/-- The marks that the laws lay: a, a + 1, .. -/
def marks (a : Int) (n : Nat) : List Int := (List.range n).map (fun j : Nat => a + (j : Int))
theorem marks_length (a : Int) (n : Nat) : (marks a n).length = n := by simp [marks]
theorem marks_at (a : Int) (n i : Nat) (h : i < n) : (marks a n)[i]'(by rw [marks_length]; exact h) = a + i := by simp [marks]
theorem marks_succ (a : Int) (n : Nat) : marks a (n + 1) = marks a n ++ [a + n] := by simp [marks, List.range_succ]
theorem markIntS_ev (l : List Int) (a : Int) (h0 : 0 ≤ a) (h1 : a ≤ 4611686018427387904) (hl : l.length ≤ 4611686018427387903) : Ev (fun k => laws_markIntS.f k l a) (a + l.length, marks a l.length) := by
  unfold laws_markIntS.f
  have key : ∀ i, i ≤ l.length → ∀ m : List Int, m.length = l.length → Ev (fun k => laws_markIntS.l0 k m (a + i) (i : Int)) (a + l.length, m.take i ++ (marks a l.length).drop i) := by
    refine loop_down l.length ?_ ?_
    · intro m hm
      refine Ev.step (f := fun _ => some (a + l.length, m)) (fun k => ?_) (Ev.ret (by rw [List.take_of_length_le (by omega), List.drop_of_length_le (by rw [marks_length]; omega)]; simp))
      simp only [laws_markIntS.l0]; rw [if_neg (by omega)]
    · intro i hi ih m hm
      refine Ev.step (f := fun k => laws_markIntS.l0 k (m.set i (a + i)) (a + ((i + 1 : Nat) : Int)) ((i + 1 : Nat) : Int)) (fun k => ?_) (evTo (ih (m.set i (a + i)) (by simpa using hm)) ?_)
      · simp only [laws_markIntS.l0]; rw [if_pos (by omega), if_pos (by omega), wrap_in (by omega) (by omega), wrap_in (by omega) (by omega)]; simp; rw [show a + (i : Int) + 1 = a + ((i : Int) + 1) by omega]
      · have hmi : i < m.length := by omega
        rw [List.take_succ_eq_append_getElem (by simpa using hmi), take_set_self]
        rw [show (marks a l.length).drop i = (a + i) :: (marks a l.length).drop (i + 1) by rw [List.drop_eq_getElem_cons (by rw [marks_length]; exact hi), marks_at _ _ _ hi]]
        simp
  have := key 0 (by omega) l rfl
  simpa using this
/-- The marks that the laws lay: (a, a + 1), (a + 2, a + 3), .. -/
def pmarks (a : Int) (n : Nat) : List S68 := (List.range n).map (fun j : Nat => ⟨a + 2 * (j : Int), a + 2 * (j : Int) + 1⟩)
theorem pmarks_length (a : Int) (n : Nat) : (pmarks a n).length = n := by simp [pmarks]
theorem pmarks_at (a : Int) (n i : Nat) (h : i < n) : (pmarks a n)[i]'(by rw [pmarks_length]; exact h) = ⟨a + 2 * (i : Int), a + 2 * (i : Int) + 1⟩ := by simp [pmarks]
theorem markPairS_ev (l : List S68) (a : Int) (h0 : 0 ≤ a) (h1 : a ≤ 4000000) (hl : l.length ≤ 1048576) : Ev (fun k => laws_markPairS.f k l a) (a + 2 * (l.length : Int), pmarks a l.length) := by
  unfold laws_markPairS.f
  have key : ∀ i, i ≤ l.length → ∀ m : List S68, m.length = l.length → Ev (fun k => laws_markPairS.l0 k m (a + 2 * (i : Int)) (i : Int)) (a + 2 * (l.length : Int), m.take i ++ (pmarks a l.length).drop i) := by
    refine loop_down l.length ?_ ?_
    · intro m hm
      refine Ev.step (f := fun _ => some (a + 2 * (l.length : Int), m)) (fun k => ?_) (Ev.ret (by rw [List.take_of_length_le (by omega), List.drop_of_length_le (by rw [pmarks_length]; omega)]; simp))
      simp only [laws_markPairS.l0]; rw [if_neg (by omega)]
    · intro i hi ih m hm
      have hmi : i < m.length := by omega
      refine Ev.step (f := fun k => laws_markPairS.l0 k (m.set i ⟨a + 2 * (i : Int), a + 2 * (i : Int) + 1⟩) (a + 2 * ((i + 1 : Nat) : Int)) ((i + 1 : Nat) : Int)) (fun k => ?_) (evTo (ih (m.set i ⟨a + 2 * (i : Int), a + 2 * (i : Int) + 1⟩) (by simpa using hm)) ?_)
      · simp only [laws_markPairS.l0]; rw [if_pos (by omega), if_pos (by omega)]
        simp only [Option.bind_some]
        rw [rd68_lt (show i < (m.set (i : Int).toNat (⟨a + 2 * (i : Int), (rd_T68 m (i : Int)).f1⟩ : S68)).length by simpa using hmi)]
        rw [show wrap64 (a + 2 * (i : Int) + 1) = a + 2 * (i : Int) + 1 from wrap_in (by omega) (by omega), show wrap64 (a + 2 * (i : Int) + 1 + 1) = a + 2 * ((i + 1 : Nat) : Int) by rw [wrap_in (by omega) (by omega)]; omega, show wrap64 ((i : Int) + 1) = ((i + 1 : Nat) : Int) from wrap_in (by omega) (by omega)]
        simp
      · rw [List.take_succ_eq_append_getElem (by simpa using hmi), take_set_self]
        rw [show (pmarks a l.length).drop i = ⟨a + 2 * (i : Int), a + 2 * (i : Int) + 1⟩ :: (pmarks a l.length).drop (i + 1) by rw [List.drop_eq_getElem_cons (by rw [pmarks_length]; exact hi), pmarks_at _ _ _ hi]]
        simp
  have := key 0 (by omega) l rfl
  simpa using this
theorem eqByteS_ev (l : List Int) (hl : l.length ≤ 9223372036854775807) : Ev (fun k => laws_eqByteS.f k l l) true := by
  unfold laws_eqByteS.f
  refine Ev.pos rfl ?_
  have key : ∀ i, i ≤ l.length → Ev (fun k => laws_eqByteS.l0 k l l (i : Int)) true := by
    refine loop_down l.length ?_ ?_
    · refine Ev.step (f := fun _ => some true) (fun k => ?_) (Ev.ret rfl)
      simp only [laws_eqByteS.l0]; rw [if_neg (by omega)]
    · intro i hi ih
      refine Ev.step (f := fun k => laws_eqByteS.l0 k l l ((i + 1 : Nat) : Int)) (fun k => ?_) ih
      simp only [laws_eqByteS.l0]; rw [if_pos (by omega), if_pos (by omega), if_pos (by omega), wrap_in (by omega) (by omega)]; simp
  simpa using key 0 (by omega)
/-- The marks in bytes. -/
def bmarks (a : Int) (n : Nat) : List Int := (List.range n).map (fun j : Nat => (a + (j : Int)) % 256)
theorem bmarks_length (a : Int) (n : Nat) : (bmarks a n).length = n := by simp [bmarks]
theorem bmarks_at (a : Int) (n i : Nat) (h : i < n) : (bmarks a n)[i]'(by rw [bmarks_length]; exact h) = (a + i) % 256 := by simp [bmarks]
theorem markByteS_ev (l : List Int) (a : Int) (h0 : 0 ≤ a) (h1 : a ≤ 4611686018427387904) (hl : l.length ≤ 4611686018427387903) : Ev (fun k => laws_markByteS.f k l a) (a + l.length, bmarks a l.length) := by
  unfold laws_markByteS.f
  have key : ∀ i, i ≤ l.length → ∀ m : List Int, m.length = l.length → Ev (fun k => laws_markByteS.l0 k m (a + i) (i : Int)) (a + l.length, m.take i ++ (bmarks a l.length).drop i) := by
    refine loop_down l.length ?_ ?_
    · intro m hm
      refine Ev.step (f := fun _ => some (a + l.length, m)) (fun k => ?_) (Ev.ret (by rw [List.take_of_length_le (by omega), List.drop_of_length_le (by rw [bmarks_length]; omega)]; simp))
      simp only [laws_markByteS.l0]; rw [if_neg (by omega)]
    · intro i hi ih m hm
      refine Ev.step (f := fun k => laws_markByteS.l0 k (m.set i ((a + i) % 256)) (a + ((i + 1 : Nat) : Int)) ((i + 1 : Nat) : Int)) (fun k => ?_) (evTo (ih (m.set i ((a + i) % 256)) (by simpa using hm)) ?_)
      · simp only [laws_markByteS.l0]; rw [if_pos (by omega), if_pos (by omega), wrap_in (by omega) (by omega), wrap_in (by omega) (by omega)]; simp; rw [show a + (i : Int) + 1 = a + ((i : Int) + 1) by omega]
      · have hmi : i < m.length := by omega
        rw [List.take_succ_eq_append_getElem (by simpa using hmi), take_set_self]
        rw [show (bmarks a l.length).drop i = ((a + i) % 256) :: (bmarks a l.length).drop (i + 1) by rw [List.drop_eq_getElem_cons (by rw [bmarks_length]; exact hi), bmarks_at _ _ _ hi]]
        simp
  have := key 0 (by omega) l rfl
  simpa using this
theorem heldByteS_ev (n : Nat) (a : Int) (h0 : 0 ≤ a) (h1 : a ≤ 4611686018427387904) (hl : n ≤ 4611686018427387903) : Ev (fun k => laws_heldByteS.f k (bmarks a n) a) (a + n) := by
  unfold laws_heldByteS.f
  have key : ∀ i, i ≤ n → Ev (fun k => laws_heldByteS.l0 k (bmarks a n) (a + i) (i : Int)) (a + n) := by
    refine loop_down n ?_ ?_
    · refine Ev.step (f := fun _ => some (a + n)) (fun k => ?_) (Ev.ret rfl)
      simp only [laws_heldByteS.l0]; rw [bmarks_length, if_neg (by omega)]
    · intro i hi ih
      refine Ev.step (f := fun k => laws_heldByteS.l0 k (bmarks a n) (a + ((i + 1 : Nat) : Int)) ((i + 1 : Nat) : Int)) (fun k => ?_) ih
      simp only [laws_heldByteS.l0]
      rw [bmarks_length, if_pos (by omega), if_pos (by omega), rd_lt (by rw [bmarks_length]; exact hi), bmarks_at _ _ _ hi, if_pos rfl, wrap_in (by omega) (by omega), wrap_in (by omega) (by omega)]
      rw [show a + (i : Int) + 1 = a + ((i + 1 : Nat) : Int) by omega, show (i : Int) + 1 = ((i + 1 : Nat) : Int) by omega]
  have := key 0 (by omega)
  simpa using this
theorem sz_step (l : Nat) (a : Int) (h0 : 0 ≤ a) (h1 : a ≤ 1048576) (hl : l ≤ 9223372036854775807) : (if wrap64 (a - (l : Int)) < 0 then some (-1 : Int) else some (wrap64 (a - (l : Int)))) = some (if (l : Int) ≤ a then a - l else -1) := by
  rw [wrap_in (by omega) (by omega)]
  by_cases h : (l : Int) ≤ a
  · rw [if_neg (by omega), if_pos h]
  · rw [if_pos (by omega), if_neg h]
theorem sz_ev (a0 a1 a2 a3 a4 a5 : Int) (a6 : Bool) (l7 : List Int) (l8 : List S75) (a9 : Int) (l10 : List Int) (a11 a12 a13 : Int) (t : ByteArray) (a15 a16 : Int) (h7 : l7.length ≤ 9223372036854775807) (h8 : l8.length ≤ 9223372036854775807) (h10 : l10.length ≤ 9223372036854775807) (ht : t.size ≤ 9223372036854775807) : ∃ z : Int, laws_szWord.f a0 a1 a2 a3 a4 a5 a6 l7 l8 a9 l10 a11 a12 a13 t a15 a16 1048576 = some z ∧ (0 ≤ z → l7.length ≤ 1048576 ∧ l8.length ≤ 1048576 ∧ l10.length ≤ 1048576) := by
  unfold laws_szWord.f laws_szIntS.f laws_szPairS.f laws_szCall.f
  rw [sz_step _ _ (by omega) (by omega) h7]
  simp only [Option.bind_some]
  by_cases c7 : (l7.length : Int) ≤ 1048576
  · rw [if_pos c7, if_neg (by omega), sz_step _ _ (by omega) (by omega) h8]
    simp only [Option.bind_some]
    by_cases c8 : (l8.length : Int) ≤ 1048576 - l7.length
    · rw [if_pos c8, if_neg (by omega), sz_step _ _ (by omega) (by omega) h10]
      simp only [Option.bind_some]
      by_cases c10 : (l10.length : Int) ≤ 1048576 - l7.length - l8.length
      · rw [if_pos c10, if_neg (by omega), sz_step _ _ (by omega) (by omega) ht]
        simp only [Option.bind_some]
        by_cases c : (t.size : Int) ≤ 1048576 - l7.length - l8.length - l10.length
        · rw [if_pos c, if_neg (by omega)]
          exact ⟨_, rfl, fun _ => by omega⟩
        · rw [if_neg c, if_pos (by omega)]
          exact ⟨-1, rfl, fun h => by omega⟩
      · rw [if_neg c10, if_pos (by omega)]
        exact ⟨-1, rfl, fun h => by omega⟩
    · rw [if_neg c8, if_pos (by omega)]
      exact ⟨-1, rfl, fun h => by omega⟩
  · rw [if_neg c7, if_pos (by omega)]
    exact ⟨-1, rfl, fun h => by omega⟩
theorem packL_len (a0 a1 a2 a3 a4 a5 : Int) (a6 : Bool) (l7 : List Int) (l8 : List S68) (a9 : Int) (l10 : List Int) (a11 a12 a13 : Int) (t : ByteArray) (a15 a16 : Int) (h : okW a0 a1 a2 a3 a4 a5 l7 l8 a9 l10 a11 a12 a13 t a15 a16) (h7 : l7.length ≤ 1048576) (h8 : l8.length ≤ 1048576) (h10 : l10.length ≤ 1048576) : (packL a0 a1 a2 a3 a4 a5 a6 l7 l8 a9 l10 a11 a12 a13 t a15 a16).length ≤ 40000000 := by
  obtain ⟨⟨o0, o1, o2, o3, o4, o5, o9, q0, q1, q2, q4, q5⟩, o7, o10, o8, ot⟩ := h
  unfold packL
  simp only [List.length_append, bytesOf_length]
  have e1 := flat_len (xs := [a0, a1, a2, a3, a4, a5, (if a6 = true then 1 else 0), a9]) (by
    intro x hx
    simp only [List.mem_cons, List.not_mem_nil, or_false] at hx
    rcases hx with rfl | rfl | rfl | rfl | rfl | rfl | rfl | rfl <;> first | assumption | (unfold okN; split <;> omega))
  have e2 := flat_len (xs := [a11, a12, a13, a15, a16, (t.size : Int)]) (by
    intro x hx
    simp only [List.mem_cons, List.not_mem_nil, or_false] at hx
    rcases hx with rfl | rfl | rfl | rfl | rfl | rfl <;> first | assumption | (unfold okN; omega))
  simp only [List.length_cons, List.length_nil] at e1 e2
  have e3 := numB_len (n := (l7.length : Int)) (by omega)
  have e4 := numB_len (n := (l10.length : Int)) (by omega)
  have e5 := numB_len (n := (l8.length : Int)) (by omega)
  have e6 := flat_len o7
  have e7 := flat_len o10
  have e8 := pairL_len o8
  omega
/-- All that the law's copies, marks and compares come to. -/
theorem pack_law (a0 a1 a2 a3 a4 a5 : Int) (a6 : Bool) (l7 : List Int) (l8 : List S75) (a9 : Int) (l10 : List Int) (a11 a12 a13 : Int) (t : ByteArray) (a15 a16 : Int) (h7 : l7.length ≤ 1048576) (h8 : l8.length ≤ 1048576) (h10 : l10.length ≤ 1048576) :
    ∃ (k : Nat) (b : Bool) (out : List Int) (r : Int) (s2 : List Int) (s3 : List S68) (s4 : List Int), out = (if b = true then packL a0 a1 a2 a3 a4 a5 a6 l7 (conv l8) a9 l10 a11 a12 a13 t a15 a16 else []) ∧ (b = true → okW a0 a1 a2 a3 a4 a5 l7 (conv l8) a9 l10 a11 a12 a13 t a15 a16) ∧ (conv l8).length = l8.length
      ∧ laws_toWord.f k a0 a1 a2 a3 a4 a5 a6 l7 l8 a9 l10 a11 a12 a13 t a15 a16 = some (a0, a1, a2, a3, a4, a5, a6, l7, conv l8, a9, l10, a11, a12, a13, t, a15, a16)
      ∧ spec_WordOk.f k a0 a1 a2 a3 a4 a5 a6 l7 (conv l8) a9 l10 a11 a12 a13 t a15 a16 = some b
      ∧ impl_WordOk.f k a0 a1 a2 a3 a4 a5 a6 l7 (conv l8) a9 l10 a11 a12 a13 t a15 a16 = some b
      ∧ laws_eqWord.f k a0 a1 a2 a3 a4 a5 a6 l7 (conv l8) a9 l10 a11 a12 a13 t a15 a16 a0 a1 a2 a3 a4 a5 a6 l7 (conv l8) a9 l10 a11 a12 a13 t a15 a16 = some true
      ∧ laws_markWord.f k a0 a1 a2 a3 a4 a5 a6 l7 (conv l8) a9 l10 a11 a12 a13 t a15 a16 1 = some (r, s2, s3, s4) ∧ 0 ≤ r
      ∧ laws_eqByteS.f k out out = some true ∧ laws_markByteS.f k out 1 = some (1 + (out.length : Int), bmarks 1 out.length) ∧ laws_heldByteS.f k (bmarks 1 out.length) 1 = some (1 + (out.length : Int)) := by
  have hc : (conv l8).length = l8.length := by simp [conv]
  have hto : Ev (fun k => laws_toWord.f k a0 a1 a2 a3 a4 a5 a6 l7 l8 a9 l10 a11 a12 a13 t a15 a16) (a0, a1, a2, a3, a4, a5, a6, l7, conv l8, a9, l10, a11, a12, a13, t, a15, a16) := by
    unfold laws_toWord.f
    exact Ev.bind (toIntS_ev l7 h7) (Ev.bind (toPairS_ev l8 h8) (Ev.bind (toIntS_ev l10 h10) (Ev.eq (a := (a11, a12, a13, t, a15, a16)) rfl (Ev.ret rfl))))
  have heq : Ev (fun k => laws_eqWord.f k a0 a1 a2 a3 a4 a5 a6 l7 (conv l8) a9 l10 a11 a12 a13 t a15 a16 a0 a1 a2 a3 a4 a5 a6 l7 (conv l8) a9 l10 a11 a12 a13 t a15 a16) true := by
    unfold laws_eqWord.f
    have e1 := evTo (eqIntS_ev l7 l7 (by omega)) (show decide (l7 = l7) = true by simp)
    have e2 := evTo (eqIntS_ev l10 l10 (by omega)) (show decide (l10 = l10) = true by simp)
    have e3 : laws_eqCall.f a11 a12 a13 t a15 a16 a11 a12 a13 t a15 a16 = some true := by simp [laws_eqCall.f]
    exact Ev.pos rfl (Ev.pos rfl (Ev.pos rfl (Ev.pos rfl (Ev.pos rfl (Ev.pos rfl (Ev.neg (by simp) (Ev.bind e1 (Ev.pos rfl (Ev.bind (eqPairS_ev _ (by omega)) (Ev.pos rfl (Ev.pos rfl (Ev.bind e2 (Ev.pos rfl (Ev.eq e3 (Ev.pos rfl (Ev.ret rfl))))))))))))))))
  obtain ⟨b, hs, hi, hb⟩ := word_both a0 a1 a2 a3 a4 a5 a6 l7 (conv l8) a9 l10 a11 a12 a13 t a15 a16 h7 h10
  obtain ⟨out, hout⟩ : ∃ o : List Int, o = (if b = true then packL a0 a1 a2 a3 a4 a5 a6 l7 (conv l8) a9 l10 a11 a12 a13 t a15 a16 else []) := ⟨_, rfl⟩
  have hlen : out.length ≤ 40000000 := by
    rw [hout]
    split
    · exact packL_len _ _ _ _ _ _ _ _ _ _ _ _ _ _ _ _ _ (hb ‹_›) h7 (by omega) h10
    · simp
  have hm : Ev (fun k => laws_markWord.f k a0 a1 a2 a3 a4 a5 a6 l7 (conv l8) a9 l10 a11 a12 a13 t a15 a16 1) (1 + (l7.length : Int) + 2 * ((conv l8).length : Int) + (l10.length : Int), marks 1 l7.length, pmarks (1 + (l7.length : Int)) (conv l8).length, marks (1 + (l7.length : Int) + 2 * ((conv l8).length : Int)) l10.length) := by
    unfold laws_markWord.f
    exact Ev.bind (markIntS_ev l7 1 (by omega) (by omega) (by omega)) (Ev.bind (markPairS_ev (conv l8) (1 + (l7.length : Int)) (by omega) (by omega) (by omega)) (Ev.bind (markIntS_ev l10 _ (by omega) (by omega) (by omega)) (Ev.ret rfl)))
  obtain ⟨k1, e1⟩ := hto
  obtain ⟨k2, e2⟩ := hs
  obtain ⟨k3, e3⟩ := hi
  obtain ⟨k4, e4⟩ := heq
  obtain ⟨k5, e5⟩ := hm
  obtain ⟨k6, e6⟩ := eqByteS_ev out (by omega)
  obtain ⟨k7, e7⟩ := markByteS_ev out 1 (by omega) (by omega) (by omega)
  obtain ⟨k8, e8⟩ := heldByteS_ev out.length 1 (by omega) (by omega) (by omega)
  have g : ∀ x, x ≤ k1 + k2 + k3 + k4 + k5 + k6 + k7 + k8 → x ≤ k1 + k2 + k3 + k4 + k5 + k6 + k7 + k8 := fun _ h => h
  exact ⟨k1 + k2 + k3 + k4 + k5 + k6 + k7 + k8, b, out, _, _, _, _, hout, hb, hc, e1 _ (by omega), e2 _ (by omega), e3 _ (by omega), e4 _ (by omega), e5 _ (by omega), by omega, e6 _ (by omega), e7 _ (by omega), e8 _ (by omega)⟩
end Go.Proofs.Ytbjdnfgalopfiaa.PB
