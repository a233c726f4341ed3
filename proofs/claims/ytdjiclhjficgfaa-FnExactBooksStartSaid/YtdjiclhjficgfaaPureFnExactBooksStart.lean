/- The law FnExactBooksStart: the books at first are the reference's, in memory of their own; nothing comes in. -/
import Derived.Test.YtdjiclhjficgfaaPXx13
namespace Go.Proofs.Ytdjiclhjficgfaa.Pure
open Go.RowKit Go.Proofs.Ytdjiclhjficgfaa.PX Go.Proofs.YtdjiclhjficgfaaW.PrintWords Go.Proofs.YtdjiclhjficgfaaW.PrintLast
theorem FnExactBooksStart : laws_FnExactBooksStart.Pure := ⟨60, by decide +kernel⟩
end Go.Proofs.Ytdjiclhjficgfaa.Pure
