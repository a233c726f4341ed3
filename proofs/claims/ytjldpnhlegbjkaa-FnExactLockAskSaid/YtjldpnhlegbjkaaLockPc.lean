/- Marks in locks. -/
import Derived.Test.YtjldpnhlegbjkaaLockPb
import Derived.Test.YtjldpnhlegbjkaaPAx10
import Derived.Test.YtjldpnhlegbjkaaPAx12
import Derived.Test.YtjldpnhlegbjkaaPAx9
import Derived.Test.YtjldpnhlegbjkaaPAx11
namespace Go.Proofs.Ytjldpnhlegbjkaa.PB
open Go.RowKit Go.Proofs.Ytjldpnhlegbjkaa.PA Go.Proofs.YtjldpnhlegbjkaaW.PrintWords Go.Proofs.YtjldpnhlegbjkaaW.PrintLast
set_option linter.unusedVariables false
set_option linter.unusedSimpArgs false
def hmark (a : Int) (j : Nat) : S45 := ⟨a + 4 * (j : Int), a + 4 * (j : Int) + 1, Int.tmod (a + 4 * (j : Int) + 2) 3 == 0, Int.tmod (a + 4 * (j : Int) + 3) 3 == 0⟩
def hmarks (a : Int) (n : Nat) : List S45 := (List.range n).map (hmark a)
theorem hmarks_length (a : Int) (n : Nat) : (hmarks a n).length = n := by simp [hmarks]
theorem hmarks_at (a : Int) (n i : Nat) (h : i < n) : (hmarks a n)[i]'(by rw [hmarks_length]; exact h) = hmark a i := by simp [hmarks]
theorem rd_set (m : List S45) (i : Nat) (x : S45) (h : i < m.length) : rd_T45 (m.set i x) (i : Int) = x := by
  rw [rdH (by simpa using h)]; simp
theorem markHoldS_ev (l : List S45) (a : Int) (h0 : 0 ≤ a) (h1 : a ≤ 100000000) (hl : l.length ≤ 1048576) : Ev (fun k => laws_markHoldS.f k l a) (a + 4 * (l.length : Int), hmarks a l.length) := by
  unfold laws_markHoldS.f
  have key : ∀ i, i ≤ l.length → ∀ m : List S45, m.length = l.length → Ev (fun k => laws_markHoldS.l0 k m (a + 4 * (i : Int)) (i : Int)) (a + 4 * (l.length : Int), m.take i ++ (hmarks a l.length).drop i) := by
    refine loop_down l.length ?_ ?_
    · intro m hm
      refine Ev.step (fun k => by rw [laws_markHoldS.l0]) ?_
      refine Ev.neg (by omega) (Ev.ret ?_)
      rw [List.take_of_length_le (by omega), List.drop_of_length_le (by rw [hmarks_length]; omega), List.append_nil]
    · intro i hi ih m hm
      have hmi : i < m.length := by omega
      have w1 : wrap64 (a + 4 * (i : Int) + 1) = a + 4 * (i : Int) + 1 := wrap_in (by omega) (by omega)
      have w2 : wrap64 (a + 4 * (i : Int) + 1 + 1) = a + 4 * (i : Int) + 2 := by rw [wrap_in (by omega) (by omega)]; omega
      have w3 : wrap64 (a + 4 * (i : Int) + 2 + 1) = a + 4 * (i : Int) + 3 := by rw [wrap_in (by omega) (by omega)]; omega
      have w4 : wrap64 (a + 4 * (i : Int) + 3 + 1) = a + 4 * ((i + 1 : Nat) : Int) := by rw [wrap_in (by omega) (by omega)]; omega
      have hw : wrap64 ((i : Int) + 1) = ((i + 1 : Nat) : Int) := wrap_in (by omega) (by omega)
      refine Ev.step (fun k => by rw [laws_markHoldS.l0]) ?_
      refine Ev.pos (by omega) (Ev.pos (by omega) ?_)
      simp only [Option.bind_some, Int.toNat_natCast]
      rw [rd_set _ _ _ hmi, rd_set _ _ _ (by simpa using hmi), rd_set _ _ _ (by simpa using hmi), w1, w2, w3, w4, hw]
      simp only [List.set_set]
      refine evTo (ih (m.set i (hmark a i)) (by simpa using hm)) ?_
      rw [List.take_succ_eq_append_getElem (by simpa using hmi), take_set_self]
      rw [show (hmarks a l.length).drop i = hmark a i :: (hmarks a l.length).drop (i + 1) by rw [List.drop_eq_getElem_cons (by rw [hmarks_length]; exact hi), hmarks_at _ _ _ hi]]
      simp
  have := key 0 (by omega) l rfl
  simpa using this
theorem heldHoldS_ev (n : Nat) (a : Int) (h0 : 0 ≤ a) (h1 : a ≤ 100000000) (hl : n ≤ 1048576) : Ev (fun k => laws_heldHoldS.f k (hmarks a n) a) (a + 4 * (n : Int)) := by
  unfold laws_heldHoldS.f
  have key : ∀ i, i ≤ n → Ev (fun k => laws_heldHoldS.l0 k (hmarks a n) (a + 4 * (i : Int)) (i : Int)) (a + 4 * (n : Int)) := by
    refine loop_down n ?_ ?_
    · refine Ev.step (fun k => by rw [laws_heldHoldS.l0]) ?_
      exact Ev.neg (by rw [hmarks_length]; omega) (Ev.ret rfl)
    · intro i hi ih
      have w1 : wrap64 (a + 4 * (i : Int) + 1) = a + 4 * (i : Int) + 1 := wrap_in (by omega) (by omega)
      have w2 : wrap64 (a + 4 * (i : Int) + 1 + 1) = a + 4 * (i : Int) + 2 := by rw [wrap_in (by omega) (by omega)]; omega
      have w3 : wrap64 (a + 4 * (i : Int) + 2 + 1) = a + 4 * (i : Int) + 3 := by rw [wrap_in (by omega) (by omega)]; omega
      have w4 : wrap64 (a + 4 * (i : Int) + 3 + 1) = a + 4 * ((i + 1 : Nat) : Int) := by rw [wrap_in (by omega) (by omega)]; omega
      have hw : wrap64 ((i : Int) + 1) = ((i + 1 : Nat) : Int) := wrap_in (by omega) (by omega)
      have hi' : i < (hmarks a n).length := by rw [hmarks_length]; exact hi
      refine Ev.step (fun k => by rw [laws_heldHoldS.l0]) ?_
      refine Ev.pos (by rw [hmarks_length]; omega) (Ev.pos (by omega) ?_)
      rw [rdH hi', hmarks_at _ _ _ hi, w1, w2, w3, w4, hw]
      exact Ev.pos rfl (Ev.pos rfl (Ev.neg (by simp [hmark]) (Ev.neg (by simp [hmark]) ih)))
  have := key 0 (by omega)
  simpa using this
theorem markLock_ev (s : Int) (h w : List S45) (a : Int) (h0 : 0 ≤ a) (h1 : a ≤ 50000000) (hh : h.length ≤ 1048576) (hw : w.length ≤ 1048576) : Ev (fun k => laws_markLock.f k s h w a) (a + 4 * (h.length : Int) + 4 * (w.length : Int), hmarks a h.length, hmarks (a + 4 * (h.length : Int)) w.length) := by
  unfold laws_markLock.f
  exact Ev.bind (markHoldS_ev h a h0 (by omega) hh) (Ev.bind (markHoldS_ev w _ (by omega) (by omega) hw) (Ev.ret rfl))
theorem heldLock_ev (s : Int) (n m : Nat) (a : Int) (h0 : 0 ≤ a) (h1 : a ≤ 50000000) (hn : n ≤ 1048576) (hm : m ≤ 1048576) : Ev (fun k => laws_heldLock.f k s (hmarks a n) (hmarks (a + 4 * (n : Int)) m) a) (a + 4 * (n : Int) + 4 * (m : Int)) := by
  unfold laws_heldLock.f
  exact Ev.bind (heldHoldS_ev n a h0 (by omega) hn) (Ev.neg (by omega) (Ev.bind (heldHoldS_ev m _ (by omega) (by omega) hm) (Ev.neg (by omega) (Ev.ret rfl))))
end Go.Proofs.Ytjldpnhlegbjkaa.PB
