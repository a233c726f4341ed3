/-
  No cell of these rows narrows 'for every input' (looked for: loops, veiled, ifaces, maps, wideKeys, modest, calm, conditions, laid).
  DERIVED. THE GIVEN ROWS OF THIS SEAT. 11 by the template 'for every input the law returns true; each argument reads behind the call as it read before'; 0 by the template 'total and deterministic' (their statements: YtdjiclhjficgfaaTotals.lean).
  GIVEN WITH THE SEED: the statements are not yours to turn. If you find one false, say at which input.
  Laid BY PROGRAM, IN A SANDBOX (cutbox-rows.mjs): the forced cells as the released guide's own fill.sh prints them over the translation c08b005755c7dcb7… (all of the seat's roots in one cut). By AI agents, Wed Nov 11 2026. No macro, syntax, notation, axiom, sorry.
-/
import Derived.Test.YtdjiclhjficgfaaChecked
import GoSem.Claim
import GoSem.ClaimJoined
import GoSem.ClaimMapViews
import Derived.JoinedTies
import Derived.KernelRfl
namespace Go.Proofs.Ytdjiclhjficgfaa
/- THE CELL 'sum', in the pinned program and in every row, IS THE sha256 OF THE DUMP (.gsa) THAT YtdjiclhjficgfaaProg.lean LOADS. Nothing in Lean hashes anything: it is a label: what it is worth is what the hold of that sum in a sandbox is worth. -/
noncomputable def Try.pinned : Pinned := { name := "ytdjiclhjficgfaa", sum := "c08b005755c7dcb7f96d8bae1d7c0fde16ff01c620eeb10e011d558248c81b34", checked := Try.checked }
namespace Rows
def none {H : Type} : Left H := { results := [], args := [] }

/-- 'laws.FnExactDealOk': WHATEVER THE INPUT: true; the input reads as it did. -/
def fnExactDealOkSpec : ChangeSpec := { name := "fnExactDealOk", fn := fun _ => fun
  | [d] => { results := [.lit (.bool true)], args := [d] }
  | _ => none }
def fnExactDealOkRow : OpenClaim := { program := "ytdjiclhjficgfaa", sum := "c08b005755c7dcb7f96d8bae1d7c0fde16ff01c620eeb10e011d558248c81b34", func := "loop.example/turnpike/laws.FnExactDealOk", spec := "fnExactDealOk", apart := false }
def FnExactDealOkSaid : Prop := fnExactDealOkRow.holds Try.pinned (OpenSpec.ofChange fnExactDealOkSpec)

/-- ITS FALSE NEIGHBOUR: 'it returns false'. Refute it at one input. -/
def fnExactDealOkWrong : ChangeSpec := { name := "fnExactDealOk", fn := fun _ => fun
  | [d] => { results := [.lit (.bool false)], args := [d] }
  | _ => none }
def FnExactDealOkWrongFalsely : Prop := fnExactDealOkRow.holds Try.pinned (OpenSpec.ofChange fnExactDealOkWrong)

/-- 'laws.FnExactDealRun': WHATEVER THE INPUT: true; the input reads as it did. -/
def fnExactDealRunSpec : ChangeSpec := { name := "fnExactDealRun", fn := fun _ => fun
  | [d1, d2] => { results := [.lit (.bool true)], args := [d1, d2] }
  | _ => none }
def fnExactDealRunRow : OpenClaim := { program := "ytdjiclhjficgfaa", sum := "c08b005755c7dcb7f96d8bae1d7c0fde16ff01c620eeb10e011d558248c81b34", func := "loop.example/turnpike/laws.FnExactDealRun", spec := "fnExactDealRun", unfollowed := true, recurses := true, apart := false }
def FnExactDealRunSaid : Prop := fnExactDealRunRow.holds Try.pinned (OpenSpec.ofChange fnExactDealRunSpec)

/-- ITS FALSE NEIGHBOUR: 'it returns false'. Refute it at one input. -/
def fnExactDealRunWrong : ChangeSpec := { name := "fnExactDealRun", fn := fun _ => fun
  | [d1, d2] => { results := [.lit (.bool false)], args := [d1, d2] }
  | _ => none }
def FnExactDealRunWrongFalsely : Prop := fnExactDealRunRow.holds Try.pinned (OpenSpec.ofChange fnExactDealRunWrong)

/-- 'laws.FnDealOnly': WHATEVER THE INPUT: true; the input reads as it did. -/
def fnDealOnlySpec : ChangeSpec := { name := "fnDealOnly", fn := fun _ => fun
  | [d] => { results := [.lit (.bool true)], args := [d] }
  | _ => none }
def fnDealOnlyRow : OpenClaim := { program := "ytdjiclhjficgfaa", sum := "c08b005755c7dcb7f96d8bae1d7c0fde16ff01c620eeb10e011d558248c81b34", func := "loop.example/turnpike/laws.FnDealOnly", spec := "fnDealOnly", unfollowed := true, recurses := true, apart := false }
def FnDealOnlySaid : Prop := fnDealOnlyRow.holds Try.pinned (OpenSpec.ofChange fnDealOnlySpec)

/-- ITS FALSE NEIGHBOUR: 'it returns false'. Refute it at one input. -/
def fnDealOnlyWrong : ChangeSpec := { name := "fnDealOnly", fn := fun _ => fun
  | [d] => { results := [.lit (.bool false)], args := [d] }
  | _ => none }
def FnDealOnlyWrongFalsely : Prop := fnDealOnlyRow.holds Try.pinned (OpenSpec.ofChange fnDealOnlyWrong)

/-- 'laws.FnDealSwap': WHATEVER THE INPUT: true; the input reads as it did. -/
def fnDealSwapSpec : ChangeSpec := { name := "fnDealSwap", fn := fun _ => fun
  | [d] => { results := [.lit (.bool true)], args := [d] }
  | _ => none }
def fnDealSwapRow : OpenClaim := { program := "ytdjiclhjficgfaa", sum := "c08b005755c7dcb7f96d8bae1d7c0fde16ff01c620eeb10e011d558248c81b34", func := "loop.example/turnpike/laws.FnDealSwap", spec := "fnDealSwap", unfollowed := true, recurses := true, apart := false }
def FnDealSwapSaid : Prop := fnDealSwapRow.holds Try.pinned (OpenSpec.ofChange fnDealSwapSpec)

/-- ITS FALSE NEIGHBOUR: 'it returns false'. Refute it at one input. -/
def fnDealSwapWrong : ChangeSpec := { name := "fnDealSwap", fn := fun _ => fun
  | [d] => { results := [.lit (.bool false)], args := [d] }
  | _ => none }
def FnDealSwapWrongFalsely : Prop := fnDealSwapRow.holds Try.pinned (OpenSpec.ofChange fnDealSwapWrong)

/-- 'laws.FnDealNeeds': WHATEVER THE INPUT: true; the input reads as it did. -/
def fnDealNeedsSpec : ChangeSpec := { name := "fnDealNeeds", fn := fun _ => fun
  | [d] => { results := [.lit (.bool true)], args := [d] }
  | _ => none }
def fnDealNeedsRow : OpenClaim := { program := "ytdjiclhjficgfaa", sum := "c08b005755c7dcb7f96d8bae1d7c0fde16ff01c620eeb10e011d558248c81b34", func := "loop.example/turnpike/laws.FnDealNeeds", spec := "fnDealNeeds", unfollowed := true, recurses := true, apart := false }
def FnDealNeedsSaid : Prop := fnDealNeedsRow.holds Try.pinned (OpenSpec.ofChange fnDealNeedsSpec)

/-- ITS FALSE NEIGHBOUR: 'it returns false'. Refute it at one input. -/
def fnDealNeedsWrong : ChangeSpec := { name := "fnDealNeeds", fn := fun _ => fun
  | [d] => { results := [.lit (.bool false)], args := [d] }
  | _ => none }
def FnDealNeedsWrongFalsely : Prop := fnDealNeedsRow.holds Try.pinned (OpenSpec.ofChange fnDealNeedsWrong)

/-- 'laws.FnDealReads': WHATEVER THE INPUT: true; the input reads as it did. -/
def fnDealReadsSpec : ChangeSpec := { name := "fnDealReads", fn := fun _ => fun
  | [d] => { results := [.lit (.bool true)], args := [d] }
  | _ => none }
def fnDealReadsRow : OpenClaim := { program := "ytdjiclhjficgfaa", sum := "c08b005755c7dcb7f96d8bae1d7c0fde16ff01c620eeb10e011d558248c81b34", func := "loop.example/turnpike/laws.FnDealReads", spec := "fnDealReads", unfollowed := true, recurses := true, apart := false }
def FnDealReadsSaid : Prop := fnDealReadsRow.holds Try.pinned (OpenSpec.ofChange fnDealReadsSpec)

/-- ITS FALSE NEIGHBOUR: 'it returns false'. Refute it at one input. -/
def fnDealReadsWrong : ChangeSpec := { name := "fnDealReads", fn := fun _ => fun
  | [d] => { results := [.lit (.bool false)], args := [d] }
  | _ => none }
def FnDealReadsWrongFalsely : Prop := fnDealReadsRow.holds Try.pinned (OpenSpec.ofChange fnDealReadsWrong)

/-- 'laws.FnDealWhole': WHATEVER THE INPUT: true; the input reads as it did. -/
def fnDealWholeSpec : ChangeSpec := { name := "fnDealWhole", fn := fun _ => fun
  | [d] => { results := [.lit (.bool true)], args := [d] }
  | _ => none }
def fnDealWholeRow : OpenClaim := { program := "ytdjiclhjficgfaa", sum := "c08b005755c7dcb7f96d8bae1d7c0fde16ff01c620eeb10e011d558248c81b34", func := "loop.example/turnpike/laws.FnDealWhole", spec := "fnDealWhole", unfollowed := true, recurses := true, apart := false }
def FnDealWholeSaid : Prop := fnDealWholeRow.holds Try.pinned (OpenSpec.ofChange fnDealWholeSpec)

/-- ITS FALSE NEIGHBOUR: 'it returns false'. Refute it at one input. -/
def fnDealWholeWrong : ChangeSpec := { name := "fnDealWhole", fn := fun _ => fun
  | [d] => { results := [.lit (.bool false)], args := [d] }
  | _ => none }
def FnDealWholeWrongFalsely : Prop := fnDealWholeRow.holds Try.pinned (OpenSpec.ofChange fnDealWholeWrong)

/-- 'laws.FnDealPuts': WHATEVER THE INPUT: true; the input reads as it did. -/
def fnDealPutsSpec : ChangeSpec := { name := "fnDealPuts", fn := fun _ => fun
  | [d] => { results := [.lit (.bool true)], args := [d] }
  | _ => none }
def fnDealPutsRow : OpenClaim := { program := "ytdjiclhjficgfaa", sum := "c08b005755c7dcb7f96d8bae1d7c0fde16ff01c620eeb10e011d558248c81b34", func := "loop.example/turnpike/laws.FnDealPuts", spec := "fnDealPuts", unfollowed := true, recurses := true, apart := false }
def FnDealPutsSaid : Prop := fnDealPutsRow.holds Try.pinned (OpenSpec.ofChange fnDealPutsSpec)

/-- ITS FALSE NEIGHBOUR: 'it returns false'. Refute it at one input. -/
def fnDealPutsWrong : ChangeSpec := { name := "fnDealPuts", fn := fun _ => fun
  | [d] => { results := [.lit (.bool false)], args := [d] }
  | _ => none }
def FnDealPutsWrongFalsely : Prop := fnDealPutsRow.holds Try.pinned (OpenSpec.ofChange fnDealPutsWrong)

/-- 'laws.FnDealStep': WHATEVER THE INPUT: true; the input reads as it did. -/
def fnDealStepSpec : ChangeSpec := { name := "fnDealStep", fn := fun _ => fun
  | [d1, d2] => { results := [.lit (.bool true)], args := [d1, d2] }
  | _ => none }
def fnDealStepRow : OpenClaim := { program := "ytdjiclhjficgfaa", sum := "c08b005755c7dcb7f96d8bae1d7c0fde16ff01c620eeb10e011d558248c81b34", func := "loop.example/turnpike/laws.FnDealStep", spec := "fnDealStep", unfollowed := true, recurses := true, apart := false }
def FnDealStepSaid : Prop := fnDealStepRow.holds Try.pinned (OpenSpec.ofChange fnDealStepSpec)

/-- ITS FALSE NEIGHBOUR: 'it returns false'. Refute it at one input. -/
def fnDealStepWrong : ChangeSpec := { name := "fnDealStep", fn := fun _ => fun
  | [d1, d2] => { results := [.lit (.bool false)], args := [d1, d2] }
  | _ => none }
def FnDealStepWrongFalsely : Prop := fnDealStepRow.holds Try.pinned (OpenSpec.ofChange fnDealStepWrong)

/-- 'laws.FnExactBooksStart': WHATEVER THE INPUT: true; the input reads as it did. -/
def fnExactBooksStartSpec : ChangeSpec := { name := "fnExactBooksStart", fn := fun _ => fun
  | [] => { results := [.lit (.bool true)], args := [] }
  | _ => none }
def fnExactBooksStartRow : OpenClaim := { program := "ytdjiclhjficgfaa", sum := "c08b005755c7dcb7f96d8bae1d7c0fde16ff01c620eeb10e011d558248c81b34", func := "loop.example/turnpike/laws.FnExactBooksStart", spec := "fnExactBooksStart", apart := false }
def FnExactBooksStartSaid : Prop := fnExactBooksStartRow.holds Try.pinned (OpenSpec.ofChange fnExactBooksStartSpec)

/-- ITS FALSE NEIGHBOUR: 'it returns false'. Refute it at one input. -/
def fnExactBooksStartWrong : ChangeSpec := { name := "fnExactBooksStart", fn := fun _ => fun
  | [] => { results := [.lit (.bool false)], args := [] }
  | _ => none }
def FnExactBooksStartWrongFalsely : Prop := fnExactBooksStartRow.holds Try.pinned (OpenSpec.ofChange fnExactBooksStartWrong)

/-- 'laws.FnExactBooksOk': WHATEVER THE INPUT: true; the input reads as it did. -/
def fnExactBooksOkSpec : ChangeSpec := { name := "fnExactBooksOk", fn := fun _ => fun
  | [d] => { results := [.lit (.bool true)], args := [d] }
  | _ => none }
def fnExactBooksOkRow : OpenClaim := { program := "ytdjiclhjficgfaa", sum := "c08b005755c7dcb7f96d8bae1d7c0fde16ff01c620eeb10e011d558248c81b34", func := "loop.example/turnpike/laws.FnExactBooksOk", spec := "fnExactBooksOk", unfollowed := true, recurses := true, apart := false }
def FnExactBooksOkSaid : Prop := fnExactBooksOkRow.holds Try.pinned (OpenSpec.ofChange fnExactBooksOkSpec)

/-- ITS FALSE NEIGHBOUR: 'it returns false'. Refute it at one input. -/
def fnExactBooksOkWrong : ChangeSpec := { name := "fnExactBooksOk", fn := fun _ => fun
  | [d] => { results := [.lit (.bool false)], args := [d] }
  | _ => none }
def FnExactBooksOkWrongFalsely : Prop := fnExactBooksOkRow.holds Try.pinned (OpenSpec.ofChange fnExactBooksOkWrong)

/- THE SECOND FORM. 'bulk': how many values and letters a reading holds, each counted each time it is reached (what is shared counts as often as it is met; a slice's spare places count too). A statement '..UptoSaid' is the law's where the arguments, and the package variables that the reading takes, are together of bulk at most 1048576: NARROWER than '..Said'. Prove '..Said' where nothing that the law and all that it calls make is longer than what came in: it says more and counts as full. Else prove '..UptoSaid'. A law counts once. -/
mutual
def uptoBulk {H : Type} : DataW H → Nat
  | .lit (.string bytes) => bytes.length + 1
  | .lit _ => 1
  | .nil => 1
  | .ptr d => uptoBulk d + 1
  | .slice elems spare => uptoBulkAll elems + uptoBulkAll spare + 1
  | .agg parts => uptoBulkAll parts + 1
  | .iface _ d => uptoBulk d + 1
  | .map entries => uptoBulkEntries entries + 1
  | .held _ => 1
def uptoBulkAll {H : Type} : List (DataW H) → Nat
  | [] => 0
  | d :: r => uptoBulk d + uptoBulkAll r
def uptoBulkEntries {H : Type} : List (Lit × DataW H) → Nat
  | [] => 0
  | x :: r => uptoBulkEntry x + uptoBulkEntries r
def uptoBulkEntry {H : Type} : Lit × DataW H → Nat
  | (.string bytes, d) => bytes.length + uptoBulk d + 1
  | (_, d) => uptoBulk d + 1
 end
def uptoSmall : (H : Type) → List (DataW H) → Bool := fun _ ds => decide (uptoBulkAll ds ≤ 1048576)
def OpenSpec.upto (s : _root_.Go.ChangeSpec) : _root_.Go.OpenSpec := { _root_.Go.OpenSpec.ofChange s with cond := some uptoSmall }

/-- 'laws.FnExactDealOk', WHERE WHAT IT READS IS OF BULK AT MOST 1048576: true; the input reads as it did. -/
def fnExactDealOkUptoRow : OpenClaim := { program := "ytdjiclhjficgfaa", sum := "c08b005755c7dcb7f96d8bae1d7c0fde16ff01c620eeb10e011d558248c81b34", func := "loop.example/turnpike/laws.FnExactDealOk", spec := "fnExactDealOk", apart := false, narrowed := true }
def FnExactDealOkUptoSaid : Prop := fnExactDealOkUptoRow.holds Try.pinned (OpenSpec.upto fnExactDealOkSpec)

/-- 'laws.FnExactDealRun', WHERE WHAT IT READS IS OF BULK AT MOST 1048576: true; the input reads as it did. -/
def fnExactDealRunUptoRow : OpenClaim := { program := "ytdjiclhjficgfaa", sum := "c08b005755c7dcb7f96d8bae1d7c0fde16ff01c620eeb10e011d558248c81b34", func := "loop.example/turnpike/laws.FnExactDealRun", spec := "fnExactDealRun", unfollowed := true, recurses := true, apart := false, narrowed := true }
def FnExactDealRunUptoSaid : Prop := fnExactDealRunUptoRow.holds Try.pinned (OpenSpec.upto fnExactDealRunSpec)

/-- 'laws.FnDealOnly', WHERE WHAT IT READS IS OF BULK AT MOST 1048576: true; the input reads as it did. -/
def fnDealOnlyUptoRow : OpenClaim := { program := "ytdjiclhjficgfaa", sum := "c08b005755c7dcb7f96d8bae1d7c0fde16ff01c620eeb10e011d558248c81b34", func := "loop.example/turnpike/laws.FnDealOnly", spec := "fnDealOnly", unfollowed := true, recurses := true, apart := false, narrowed := true }
def FnDealOnlyUptoSaid : Prop := fnDealOnlyUptoRow.holds Try.pinned (OpenSpec.upto fnDealOnlySpec)

/-- 'laws.FnDealSwap', WHERE WHAT IT READS IS OF BULK AT MOST 1048576: true; the input reads as it did. -/
def fnDealSwapUptoRow : OpenClaim := { program := "ytdjiclhjficgfaa", sum := "c08b005755c7dcb7f96d8bae1d7c0fde16ff01c620eeb10e011d558248c81b34", func := "loop.example/turnpike/laws.FnDealSwap", spec := "fnDealSwap", unfollowed := true, recurses := true, apart := false, narrowed := true }
def FnDealSwapUptoSaid : Prop := fnDealSwapUptoRow.holds Try.pinned (OpenSpec.upto fnDealSwapSpec)

/-- 'laws.FnDealNeeds', WHERE WHAT IT READS IS OF BULK AT MOST 1048576: true; the input reads as it did. -/
def fnDealNeedsUptoRow : OpenClaim := { program := "ytdjiclhjficgfaa", sum := "c08b005755c7dcb7f96d8bae1d7c0fde16ff01c620eeb10e011d558248c81b34", func := "loop.example/turnpike/laws.FnDealNeeds", spec := "fnDealNeeds", unfollowed := true, recurses := true, apart := false, narrowed := true }
def FnDealNeedsUptoSaid : Prop := fnDealNeedsUptoRow.holds Try.pinned (OpenSpec.upto fnDealNeedsSpec)

/-- 'laws.FnDealReads', WHERE WHAT IT READS IS OF BULK AT MOST 1048576: true; the input reads as it did. -/
def fnDealReadsUptoRow : OpenClaim := { program := "ytdjiclhjficgfaa", sum := "c08b005755c7dcb7f96d8bae1d7c0fde16ff01c620eeb10e011d558248c81b34", func := "loop.example/turnpike/laws.FnDealReads", spec := "fnDealReads", unfollowed := true, recurses := true, apart := false, narrowed := true }
def FnDealReadsUptoSaid : Prop := fnDealReadsUptoRow.holds Try.pinned (OpenSpec.upto fnDealReadsSpec)

/-- 'laws.FnDealWhole', WHERE WHAT IT READS IS OF BULK AT MOST 1048576: true; the input reads as it did. -/
def fnDealWholeUptoRow : OpenClaim := { program := "ytdjiclhjficgfaa", sum := "c08b005755c7dcb7f96d8bae1d7c0fde16ff01c620eeb10e011d558248c81b34", func := "loop.example/turnpike/laws.FnDealWhole", spec := "fnDealWhole", unfollowed := true, recurses := true, apart := false, narrowed := true }
def FnDealWholeUptoSaid : Prop := fnDealWholeUptoRow.holds Try.pinned (OpenSpec.upto fnDealWholeSpec)

/-- 'laws.FnDealPuts', WHERE WHAT IT READS IS OF BULK AT MOST 1048576: true; the input reads as it did. -/
def fnDealPutsUptoRow : OpenClaim := { program := "ytdjiclhjficgfaa", sum := "c08b005755c7dcb7f96d8bae1d7c0fde16ff01c620eeb10e011d558248c81b34", func := "loop.example/turnpike/laws.FnDealPuts", spec := "fnDealPuts", unfollowed := true, recurses := true, apart := false, narrowed := true }
def FnDealPutsUptoSaid : Prop := fnDealPutsUptoRow.holds Try.pinned (OpenSpec.upto fnDealPutsSpec)

/-- 'laws.FnDealStep', WHERE WHAT IT READS IS OF BULK AT MOST 1048576: true; the input reads as it did. -/
def fnDealStepUptoRow : OpenClaim := { program := "ytdjiclhjficgfaa", sum := "c08b005755c7dcb7f96d8bae1d7c0fde16ff01c620eeb10e011d558248c81b34", func := "loop.example/turnpike/laws.FnDealStep", spec := "fnDealStep", unfollowed := true, recurses := true, apart := false, narrowed := true }
def FnDealStepUptoSaid : Prop := fnDealStepUptoRow.holds Try.pinned (OpenSpec.upto fnDealStepSpec)

/-- 'laws.FnExactBooksStart', WHERE WHAT IT READS IS OF BULK AT MOST 1048576: true; the input reads as it did. -/
def fnExactBooksStartUptoRow : OpenClaim := { program := "ytdjiclhjficgfaa", sum := "c08b005755c7dcb7f96d8bae1d7c0fde16ff01c620eeb10e011d558248c81b34", func := "loop.example/turnpike/laws.FnExactBooksStart", spec := "fnExactBooksStart", apart := false, narrowed := true }
def FnExactBooksStartUptoSaid : Prop := fnExactBooksStartUptoRow.holds Try.pinned (OpenSpec.upto fnExactBooksStartSpec)

/-- 'laws.FnExactBooksOk', WHERE WHAT IT READS IS OF BULK AT MOST 1048576: true; the input reads as it did. -/
def fnExactBooksOkUptoRow : OpenClaim := { program := "ytdjiclhjficgfaa", sum := "c08b005755c7dcb7f96d8bae1d7c0fde16ff01c620eeb10e011d558248c81b34", func := "loop.example/turnpike/laws.FnExactBooksOk", spec := "fnExactBooksOk", unfollowed := true, recurses := true, apart := false, narrowed := true }
def FnExactBooksOkUptoSaid : Prop := fnExactBooksOkUptoRow.holds Try.pinned (OpenSpec.upto fnExactBooksOkSpec)

end Rows
end Go.Proofs.Ytdjiclhjficgfaa
