/- The law FnExactMapStart: the program's MapStart returns what the reference returns, in memory of its own; no condition. -/
import Derived.Test.YtnpmepaiigbhlaaPXx5
namespace Go.Proofs.Ytnpmepaiigbhlaa.Pure
open Go.RowKit Go.Proofs.Ytnpmepaiigbhlaa.PX Go.Proofs.YtnpmepaiigbhlaaW.PrintWords Go.Proofs.YtnpmepaiigbhlaaW.PrintLast

/-- YOURS: ∃ k, laws_FnExactMapStart.f k  = some true
What it reaches (each with k first where it has rounds; `.mono`: more rounds tell the same; `.l0`, ..: its loops, with `.mono_l`): spec_MapStart.f, slices_Clone_int_int.f, impl_MapStart.f, laws_eqIntS.f, laws_eqMap.f, laws_markIntS.f, laws_markMap.f, laws_heldIntS.f, laws_heldMap.f, laws_FnExactMapStart.f -/
theorem FnExactMapStart : laws_FnExactMapStart.Pure := by
  exact ⟨30, by decide +kernel⟩

end Go.Proofs.Ytnpmepaiigbhlaa.Pure
