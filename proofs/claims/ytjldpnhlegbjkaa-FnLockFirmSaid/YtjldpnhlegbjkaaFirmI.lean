/- What the program's and the reference's LockFirm come to: firmOf. -/
import Derived.Test.YtjldpnhlegbjkaaFirmR
import Derived.Test.YtjldpnhlegbjkaaPAx39
import Derived.Test.YtjldpnhlegbjkaaPAx36
import Derived.Test.YtjldpnhlegbjkaaPAx28
import Derived.Test.YtjldpnhlegbjkaaPAx24
namespace Go.Proofs.Ytjldpnhlegbjkaa.PB
open Go.RowKit Go.Proofs.Ytjldpnhlegbjkaa.PA Go.Proofs.YtjldpnhlegbjkaaW.PrintWords Go.Proofs.YtjldpnhlegbjkaaW.PrintLast Go.Proofs.YtjldpnhlegbjkaaW.PrintMore
set_option linter.unusedVariables false
set_option linter.unusedSimpArgs false
theorem clone_eq (s : Int) (h w : List S45) (hh : h.length ≤ 1048576) (hw : w.length ≤ 1048576) : impl_lockClone.f s h w = some (s, h, w) := by
  unfold impl_lockClone.f impl_Hold_56.f
  rw [if_pos (by omega), if_pos (by omega)]; rfl
theorem impl_firm_eq (s : Int) (h w : List S45) (t y : Int) (hh : h.length ≤ 1048576) (hw : w.length ≤ 1048576) : impl_LockFirm.f s h w t y = some (firmOf s h w t y) := by
  unfold impl_LockFirm.f firmOf
  rw [show impl_LockOk.f s h w = some (lockB s h w) from if_pos ⟨hh, hw⟩, Option.bind_some]
  by_cases q : lockB s h w = true
  · rw [if_pos q, if_pos q, clone_eq s h w hh hw, Option.bind_some]
    obtain ⟨ha, hl⟩ := lock_asc2' q
    simp only
    rw [place_eq t ha (by omega), Option.bind_some]
    simp only
    by_cases c : hasOf h t = true
    · have hp := place_in c
      rw [if_pos c, if_pos c, if_pos hp.1, if_pos hp.2]
      split <;> rfl
    · rw [if_neg c, if_neg c]
  · rw [if_neg q, if_neg q]
theorem firmS (s : Int) (A1 : Option Addr) (c1 : Nat) (l1 : List S45) (A2 : Option Addr) (c2 : Nat) (l2 : List S45) (t y : Int) (r1 : Int) (r2 r3 : List S45) (r4 : Bool) (w : World) (hr1 : Kd.C k45 w A1 l1.length l1) (hc1 : l1.length ≤ c1) (hr2 : Kd.C k45 w A2 l2.length l2) (hc2 : l2.length ≤ c2) (hl1 : l1.length ≤ 1048576) (hl2 : l2.length ≤ 1048576) (h : firmOf s l1 l2 t y = (r1, r2, r3, r4)) :
    Calls Try.prog 20 #[.agg #[.int .i64 s, .slice A1 l1.length c1, .slice A2 l2.length c2], .int .i64 t, .int .i64 y] w fun e w' => ∃ v1 v2 : Value, e = .returned (.tuple #[.agg #[.int .i64 r1, v1, v2], .bool r4]) ∧ Kd.R k45 45 w' w.heap.size (fun k => some k ≠ v2.ownBlock) v1 r2 ∧ Kd.R k45 45 w' w.heap.size (fun k => some k ≠ v1.ownBlock) v2 r3 ∧ Below w.heap.size w w' := by
  obtain ⟨K, hk⟩ := spec_firm_ev s l1 l2 t y hl1 hl2
  have hk := hk K (Nat.le_refl _)
  rw [h] at hk
  exact spec_LockFirm.calls K s A1 c1 l1 A2 c2 l2 t y r1 r2 r3 r4 w hr1 hc1 hr2 hc2 hk
theorem firmI (s : Int) (A1 : Option Addr) (c1 : Nat) (l1 : List S45) (A2 : Option Addr) (c2 : Nat) (l2 : List S45) (t y : Int) (r1 : Int) (r2 r3 : List S45) (r4 : Bool) (w : World) (hr1 : Kd.C k45 w A1 l1.length l1) (hc1 : l1.length ≤ c1) (hr2 : Kd.C k45 w A2 l2.length l2) (hc2 : l2.length ≤ c2) (hl1 : l1.length ≤ 1048576) (hl2 : l2.length ≤ 1048576) (h : firmOf s l1 l2 t y = (r1, r2, r3, r4)) :
    Calls Try.prog 21 #[.agg #[.int .i64 s, .slice A1 l1.length c1, .slice A2 l2.length c2], .int .i64 t, .int .i64 y] w fun e w' => ∃ v1 v2 : Value, e = .returned (.tuple #[.agg #[.int .i64 r1, v1, v2], .bool r4]) ∧ Kd.R k45 45 w' w.heap.size (fun k => some k ≠ v2.ownBlock) v1 r2 ∧ Kd.R k45 45 w' w.heap.size (fun k => some k ≠ v1.ownBlock) v2 r3 ∧ Below w.heap.size w w' :=
  impl_LockFirm.calls s A1 c1 l1 A2 c2 l2 t y r1 r2 r3 r4 w hr1 hc1 hr2 hc2 ((impl_firm_eq s l1 l2 t y hl1 hl2).trans (congrArg some h))
end Go.Proofs.Ytjldpnhlegbjkaa.PB
