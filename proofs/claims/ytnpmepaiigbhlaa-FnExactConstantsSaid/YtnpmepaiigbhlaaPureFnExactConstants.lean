/- The law FnExactConstants: its printed function answers true; no condition. -/
import Derived.Test.YtnpmepaiigbhlaaPFnExactConstantsx1
namespace Go.Proofs.Ytnpmepaiigbhlaa.Pure
open Go.RowKit Go.Proofs.Ytnpmepaiigbhlaa.PFnExactConstants Go.Proofs.YtnpmepaiigbhlaaW.PrintWords Go.Proofs.YtnpmepaiigbhlaaW.PrintLast

/-- YOURS: laws_FnExactConstants.f  = some true
What it reaches (each with k first where it has rounds; `.mono`: more rounds tell the same; `.l0`, ..: its loops, with `.mono_l`): laws_FnExactConstants.f -/
theorem FnExactConstants : laws_FnExactConstants.Pure := by
  rfl

end Go.Proofs.Ytnpmepaiigbhlaa.Pure
