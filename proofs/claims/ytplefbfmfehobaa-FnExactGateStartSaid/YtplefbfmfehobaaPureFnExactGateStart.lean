/- The law FnExactGateStart: the gate at first is the reference's, in memory of its own; nothing comes in. -/
import Derived.Test.YtplefbfmfehobaaPXx20
namespace Go.Proofs.Ytplefbfmfehobaa.Pure
open Go.RowKit Go.Proofs.Ytplefbfmfehobaa.PX Go.Proofs.YtplefbfmfehobaaW.PrintWords Go.Proofs.YtplefbfmfehobaaW.PrintLast
theorem FnExactGateStart : laws_FnExactGateStart.Pure := ⟨60, by decide +kernel⟩
end Go.Proofs.Ytplefbfmfehobaa.Pure
