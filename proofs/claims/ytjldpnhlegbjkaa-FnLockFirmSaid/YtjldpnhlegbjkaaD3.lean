/- Equal lists and locks compare equal (laws.loHolds, laws.loLock); both LockOk's. -/
import Derived.Test.YtjldpnhlegbjkaaD2
import Derived.Test.YtjldpnhlegbjkaaPAx33
import Derived.Test.YtjldpnhlegbjkaaPAx34
import Derived.Deep.Cut
namespace Go.Proofs.Ytjldpnhlegbjkaa.PA
open Go.RowKit Go.Proofs.YtjldpnhlegbjkaaW.PrintWords Go.Proofs.YtjldpnhlegbjkaaW.PrintLast Go.Proofs.YtjldpnhlegbjkaaW.PrintMore Go.Proofs.Ytjldpnhlegbjkaa.PB
attribute [local go_sem] max2_int min2_int max_two min_two max_three min_three max_four min_four
set_option linter.unusedVariables false
set_option linter.unusedSimpArgs false
theorem loHolds_ev (l : List S45) (hl : l.length ≤ 1048576) : Ev (fun k => laws_loHolds.f k l l) true := by
  unfold laws_loHolds.f
  refine Ev.pos rfl ?_
  have key : ∀ i, i ≤ l.length → Ev (fun k => laws_loHolds.l0 k l l (i : Int)) true := by
    refine loop_down l.length ?_ ?_
    · refine Ev.step (fun k => by rw [laws_loHolds.l0]) ?_
      exact Ev.neg (by omega) (Ev.ret rfl)
    · intro i hi ih
      have hw : wrap64 ((i : Int) + 1) = ((i + 1 : Nat) : Int) := wrap_in (by omega) (by omega)
      refine Ev.step (fun k => by rw [laws_loHolds.l0]) ?_
      refine Ev.pos (by omega) (Ev.pos (by omega) (Ev.pos (by omega) (Ev.neg (by simp) ?_)))
      rw [hw]
      exact ih
  exact key 0 (by omega)
/-- Two equal lists, two equal locks. -/
theorem loHolds_eq (A0 : Option Addr) (c0 : Nat) (l : List S45) (A1 : Option Addr) (c1 : Nat) (w : World) (hr0 : Kd.C k45 w A0 l.length l) (hc0 : l.length ≤ c0) (hr1 : Kd.C k45 w A1 l.length l) (hc1 : l.length ≤ c1) (hl : l.length ≤ 1048576) :
    Calls Try.prog 34 #[.slice A0 l.length c0, .slice A1 l.length c1] w fun e w' => e = .returned (.bool true) ∧ Below w.heap.size w w' := by
  obtain ⟨K, hk⟩ := loHolds_ev l hl
  refine (laws_loHolds.calls K A0 c0 l A1 c1 l true w hr0 hc0 hr1 hc1 (hk K (Nat.le_refl _))).mono ?_
  rintro e w' ⟨rfl, ⟨nd, rfl⟩⟩
  exact ⟨rfl, pw_below_drewN (Below.refl w.heap.size w) nd⟩
theorem loLock_eq (s : Int) (A1 : Option Addr) (c1 : Nat) (l1 : List S45) (A2 : Option Addr) (c2 : Nat) (l2 : List S45) (B1 : Option Addr) (d1 : Nat) (B2 : Option Addr) (d2 : Nat) (w : World) (hr1 : Kd.C k45 w A1 l1.length l1) (hc1 : l1.length ≤ c1) (hr2 : Kd.C k45 w A2 l2.length l2) (hc2 : l2.length ≤ c2)
    (hs1 : Kd.C k45 w B1 l1.length l1) (hd1 : l1.length ≤ d1) (hs2 : Kd.C k45 w B2 l2.length l2) (hd2 : l2.length ≤ d2) (hl1 : l1.length ≤ 1048576) (hl2 : l2.length ≤ 1048576) :
    Calls Try.prog 33 #[.agg #[.int .i64 s, .slice A1 l1.length c1, .slice A2 l2.length c2], .agg #[.int .i64 s, .slice B1 l1.length d1, .slice B2 l2.length d2]] w fun e w' => e = .returned (.bool true) ∧ Below w.heap.size w w' := by
  have E : Ev (fun k => laws_loLock.f k s l1 l2 s l1 l2) true := by
    unfold laws_loLock.f
    exact Ev.pos rfl (Ev.bind (loHolds_ev l1 hl1) (Ev.pos rfl (Ev.bind (loHolds_ev l2 hl2) (Ev.ret rfl))))
  obtain ⟨K, hk⟩ := E
  exact laws_loLock.calls K s A1 c1 l1 A2 c2 l2 s B1 d1 l1 B2 d2 l2 true w hr1 hc1 hr2 hc2 hs1 hd1 hs2 hd2 (hk K (Nat.le_refl _))
theorem okS (s : Int) (A1 : Option Addr) (c1 : Nat) (l1 : List S45) (A2 : Option Addr) (c2 : Nat) (l2 : List S45) (w : World) (hr1 : Kd.C k45 w A1 l1.length l1) (hc1 : l1.length ≤ c1) (hr2 : Kd.C k45 w A2 l2.length l2) (hc2 : l2.length ≤ c2) (hl1 : l1.length ≤ 1048576) (hl2 : l2.length ≤ 1048576) :
    Calls Try.prog 16 #[.agg #[.int .i64 s, .slice A1 l1.length c1, .slice A2 l2.length c2]] w fun e w' => e = .returned (.bool (lockB s l1 l2)) ∧ Below w.heap.size w w' :=
  okH s A1 c1 l1 A2 c2 l2 w hr1 hc1 hr2 hc2 hl1 hl2
theorem okI (s : Int) (A1 : Option Addr) (c1 : Nat) (l1 : List S45) (A2 : Option Addr) (c2 : Nat) (l2 : List S45) (w : World) (hr1 : Kd.C k45 w A1 l1.length l1) (hc1 : l1.length ≤ c1) (hr2 : Kd.C k45 w A2 l2.length l2) (hc2 : l2.length ≤ c2) (hl1 : l1.length ≤ 1048576) (hl2 : l2.length ≤ 1048576) :
    Calls Try.prog 18 #[.agg #[.int .i64 s, .slice A1 l1.length c1, .slice A2 l2.length c2]] w fun e w' => e = .returned (.bool (lockB s l1 l2)) ∧ Below w.heap.size w w' :=
  impl_LockOk.calls s A1 c1 l1 A2 c2 l2 (lockB s l1 l2) w hr1 hc1 hr2 hc2 (if_pos ⟨hl1, hl2⟩)
end Go.Proofs.Ytjldpnhlegbjkaa.PA
