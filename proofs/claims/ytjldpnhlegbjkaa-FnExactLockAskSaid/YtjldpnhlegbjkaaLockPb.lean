/- Copies and compares of locks. -/
import Derived.Test.YtjldpnhlegbjkaaLockPa
import Derived.Test.YtjldpnhlegbjkaaPAx4
import Derived.Test.YtjldpnhlegbjkaaPAx6
import Derived.Test.YtjldpnhlegbjkaaPAx8
import Derived.Test.YtjldpnhlegbjkaaPAx7
import Derived.Test.YtjldpnhlegbjkaaPAx5
namespace Go.Proofs.Ytjldpnhlegbjkaa.PB
open Go.RowKit Go.Proofs.Ytjldpnhlegbjkaa.PA Go.Proofs.YtjldpnhlegbjkaaW.PrintWords Go.Proofs.YtjldpnhlegbjkaaW.PrintLast
set_option linter.unusedVariables false
set_option linter.unusedSimpArgs false
def convH (l : List S42) : List S45 := l.map (fun p => ⟨p.f0, p.f1, p.f2, p.f3⟩)
theorem convH_len (l : List S42) : (convH l).length = l.length := by simp [convH]
theorem rdL {l : List S42} {i : Nat} (h : i < l.length) : rd_T42 l (i : Int) = l[i] := by simp [rd_T42, List.getD_eq_getElem?_getD, List.getElem?_eq_getElem h]
theorem toHoldS_ev (l : List S42) (hl : l.length ≤ 1048576) : Ev (fun k => laws_toHoldS.f k l) (convH l) := by
  unfold laws_toHoldS.f
  refine Ev.pos (by omega) (Ev.pos (by omega) ?_)
  have hcl := convH_len l
  have key : ∀ i, i ≤ l.length → ∀ m : List S45, m.length = l.length → Ev (fun k => laws_toHoldS.l0 k l m (i : Int)) (m.take i ++ (convH l).drop i) := by
    refine loop_down l.length ?_ ?_
    · intro m hm
      refine Ev.step (f := fun _ => some m) (fun k => ?_) (Ev.ret (by rw [List.take_of_length_le (by omega), List.drop_of_length_le (by omega)]; simp))
      simp only [laws_toHoldS.l0]; rw [if_neg (by omega)]
    · intro i hi ih m hm
      have hw : wrap64 ((i : Int) + 1) = ((i + 1 : Nat) : Int) := wrap_in (by omega) (by omega)
      refine Ev.step (fun k => by rw [laws_toHoldS.l0]) ?_
      refine Ev.pos (by omega) (Ev.pos (by omega) ?_)
      rw [rdL hi, hw]
      refine Ev.eq (a := (l[i].f0, l[i].f1, l[i].f2, l[i].f3)) rfl (Ev.pos (by omega) ?_)
      rw [Int.toNat_natCast]
      refine evTo (ih (m.set i ⟨l[i].f0, l[i].f1, l[i].f2, l[i].f3⟩) (by simpa using hm)) ?_
      have hmi : i < m.length := by omega
      rw [List.take_succ_eq_append_getElem (by simpa using hmi), take_set_self, List.drop_eq_getElem_cons (show i < (convH l).length by omega)]
      simp [convH]
  have := key 0 (by omega) (List.replicate ((l.length : Int)).toNat z45) (by simp)
  simpa using this
theorem toLock_ev (s : Int) (h w : List S42) (hh : h.length ≤ 1048576) (hw : w.length ≤ 1048576) : Ev (fun k => laws_toLock.f k s h w) (s, convH h, convH w) := by
  unfold laws_toLock.f
  exact Ev.bind (toHoldS_ev h hh) (Ev.bind (toHoldS_ev w hw) (Ev.ret rfl))
theorem eqHold_eq (h : S45) : laws_eqHold.f h.f0 h.f1 h.f2 h.f3 h.f0 h.f1 h.f2 h.f3 = some true := by
  unfold laws_eqHold.f
  simp
theorem eqHoldS_ev (l : List S45) (hl : l.length ≤ 1048576) : Ev (fun k => laws_eqHoldS.f k l l) true := by
  unfold laws_eqHoldS.f
  refine Ev.pos rfl ?_
  have key : ∀ i, i ≤ l.length → Ev (fun k => laws_eqHoldS.l0 k l l (i : Int)) true := by
    refine loop_down l.length ?_ ?_
    · refine Ev.step (fun k => by rw [laws_eqHoldS.l0]) ?_
      exact Ev.neg (by omega) (Ev.ret rfl)
    · intro i hi ih
      have hw : wrap64 ((i : Int) + 1) = ((i + 1 : Nat) : Int) := wrap_in (by omega) (by omega)
      refine Ev.step (fun k => by rw [laws_eqHoldS.l0]) ?_
      refine Ev.pos (by omega) (Ev.pos (by omega) (Ev.pos (by omega) ?_))
      rw [hw]
      exact Ev.eq (eqHold_eq _) (Ev.pos rfl ih)
  simpa using key 0 (by omega)
theorem eqLock_ev (s : Int) (h w : List S45) (hh : h.length ≤ 1048576) (hw : w.length ≤ 1048576) : Ev (fun k => laws_eqLock.f k s h w s h w) true := by
  unfold laws_eqLock.f
  exact Ev.pos rfl (Ev.bind (eqHoldS_ev h hh) (Ev.pos rfl (Ev.bind (eqHoldS_ev w hw) (Ev.pos rfl (Ev.ret rfl)))))
theorem szH_step (l : List S42) (a : Int) (h0 : 0 ≤ a) (h1 : a ≤ 1048576) (hl : l.length ≤ 9223372036854775807) : laws_szHoldS.f l a = some (if (l.length : Int) ≤ a then a - l.length else -1) := by
  unfold laws_szHoldS.f
  rw [wrap_in (by omega) (by omega)]
  by_cases h : (l.length : Int) ≤ a
  · rw [if_neg (by omega), if_pos h]
  · rw [if_pos (by omega), if_neg h]
theorem szLock_eq (s : Int) (h w : List S42) (hh : h.length ≤ 9223372036854775807) (hw : w.length ≤ 9223372036854775807) : ∃ z : Int, laws_szLock.f s h w 1048576 = some z ∧ (0 ≤ z → h.length + w.length ≤ 1048576) := by
  unfold laws_szLock.f
  rw [szH_step h _ (by omega) (by omega) hh, Option.bind_some]
  by_cases c : (h.length : Int) ≤ 1048576
  · rw [if_pos c, if_neg (by omega), szH_step w _ (by omega) (by omega) hw, Option.bind_some]
    by_cases d : (w.length : Int) ≤ 1048576 - h.length
    · rw [if_pos d, if_neg (by omega)]
      exact ⟨_, rfl, fun _ => by omega⟩
    · rw [if_neg d, if_pos (by omega)]
      exact ⟨-1, rfl, fun h => by omega⟩
  · rw [if_neg c, if_pos (by omega)]
    exact ⟨-1, rfl, fun h => by omega⟩
theorem impl_LockOk_eq (s : Int) (h w : List S45) (hh : h.length ≤ 1048576) (hw : w.length ≤ 1048576) : impl_LockOk.f s h w = some (lockB s h w) := if_pos ⟨hh, hw⟩
end Go.Proofs.Ytjldpnhlegbjkaa.PB
