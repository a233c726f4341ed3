/- The law FnExactMapSlot: for every whole number the program's MapSlot and the reference's are equal; the only condition is that the number is one of Go's int. -/
import Derived.Test.YtnpmepaiigbhlaaPFnExactMapSlotx1
namespace Go.Proofs.Ytnpmepaiigbhlaa.Pure
open Go.RowKit Go.Proofs.Ytnpmepaiigbhlaa.PFnExactMapSlot Go.Proofs.YtnpmepaiigbhlaaW.PrintWords Go.Proofs.YtnpmepaiigbhlaaW.PrintLast

/-- YOURS: ∀ (a0 : Int), (Lit.int .i64 a0).wf = true → laws_FnExactMapSlot.f a0 = some true
What it reaches (each with k first where it has rounds; `.mono`: more rounds tell the same; `.l0`, ..: its loops, with `.mono_l`): spec_l6In.f, spec_MapSlot.f, impl_within.f, impl_isKey.f, impl_MapSlot.f, laws_FnExactMapSlot.f -/
theorem FnExactMapSlot : laws_FnExactMapSlot.Pure := by
  intro a0 _
  unfold laws_FnExactMapSlot.f spec_MapSlot.f impl_MapSlot.f impl_isKey.f impl_within.f spec_l6In.f
  by_cases h1 : (0 : Int) ≤ a0
  · by_cases h2 : a0 ≤ 31
    · simp [h1, h2]
    · simp [h1, h2]
  · simp [h1]

end Go.Proofs.Ytnpmepaiigbhlaa.Pure
