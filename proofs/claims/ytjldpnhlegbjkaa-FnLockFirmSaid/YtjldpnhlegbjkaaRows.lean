/-
  No cell of these rows narrows 'for every input' (looked for: loops, veiled, ifaces, maps, wideKeys, modest, calm, conditions, laid).
  DERIVED. THE GIVEN ROWS OF THIS SEAT. 12 by the template 'for every input the law returns true; each argument reads behind the call as it read before'; 0 by the template 'total and deterministic' (their statements: YtjldpnhlegbjkaaTotals.lean).
  GIVEN WITH THE SEED: the statements are not yours to turn. If you find one false, say at which input.
  Laid BY PROGRAM, IN A SANDBOX (cutbox-rows.mjs): the forced cells as the released guide's own fill.sh prints them over the translation e0293a032802b090… (all of the seat's roots in one cut). By AI agents, Wed Nov 11 2026. No macro, syntax, notation, axiom, sorry.
-/
import Derived.Test.YtjldpnhlegbjkaaChecked
import GoSem.Claim
import GoSem.ClaimJoined
import GoSem.ClaimMapViews
import Derived.JoinedTies
import Derived.KernelRfl
namespace Go.Proofs.Ytjldpnhlegbjkaa
/- THE CELL 'sum', in the pinned program and in every row, IS THE sha256 OF THE DUMP (.gsa) THAT YtjldpnhlegbjkaaProg.lean LOADS. Nothing in Lean hashes anything: it is a label: what it is worth is what the hold of that sum in a sandbox is worth. -/
noncomputable def Try.pinned : Pinned := { name := "ytjldpnhlegbjkaa", sum := "e0293a032802b0903218f9ca363a1eec34e26b9358b070df76edc1927df17e80", checked := Try.checked }
namespace Rows
def none {H : Type} : Left H := { results := [], args := [] }

/-- 'laws.FnExactLockOk': WHATEVER THE INPUT: true; the input reads as it did. -/
def fnExactLockOkSpec : ChangeSpec := { name := "fnExactLockOk", fn := fun _ => fun
  | [d] => { results := [.lit (.bool true)], args := [d] }
  | _ => none }
def fnExactLockOkRow : OpenClaim := { program := "ytjldpnhlegbjkaa", sum := "e0293a032802b0903218f9ca363a1eec34e26b9358b070df76edc1927df17e80", func := "loop.example/turnpike/laws.FnExactLockOk", spec := "fnExactLockOk", unfollowed := true, recurses := true, apart := false }
def FnExactLockOkSaid : Prop := fnExactLockOkRow.holds Try.pinned (OpenSpec.ofChange fnExactLockOkSpec)

/-- ITS FALSE NEIGHBOUR: 'it returns false'. Refute it at one input. -/
def fnExactLockOkWrong : ChangeSpec := { name := "fnExactLockOk", fn := fun _ => fun
  | [d] => { results := [.lit (.bool false)], args := [d] }
  | _ => none }
def FnExactLockOkWrongFalsely : Prop := fnExactLockOkRow.holds Try.pinned (OpenSpec.ofChange fnExactLockOkWrong)

/-- 'laws.FnExactLockFirm': WHATEVER THE INPUT: true; the input reads as it did. -/
def fnExactLockFirmSpec : ChangeSpec := { name := "fnExactLockFirm", fn := fun _ => fun
  | [d1, d2, d3] => { results := [.lit (.bool true)], args := [d1, d2, d3] }
  | _ => none }
def fnExactLockFirmRow : OpenClaim := { program := "ytjldpnhlegbjkaa", sum := "e0293a032802b0903218f9ca363a1eec34e26b9358b070df76edc1927df17e80", func := "loop.example/turnpike/laws.FnExactLockFirm", spec := "fnExactLockFirm", unfollowed := true, recurses := true, apart := false }
def FnExactLockFirmSaid : Prop := fnExactLockFirmRow.holds Try.pinned (OpenSpec.ofChange fnExactLockFirmSpec)

/-- ITS FALSE NEIGHBOUR: 'it returns false'. Refute it at one input. -/
def fnExactLockFirmWrong : ChangeSpec := { name := "fnExactLockFirm", fn := fun _ => fun
  | [d1, d2, d3] => { results := [.lit (.bool false)], args := [d1, d2, d3] }
  | _ => none }
def FnExactLockFirmWrongFalsely : Prop := fnExactLockFirmRow.holds Try.pinned (OpenSpec.ofChange fnExactLockFirmWrong)

/-- 'laws.FnExactLockFree': WHATEVER THE INPUT: true; the input reads as it did. -/
def fnExactLockFreeSpec : ChangeSpec := { name := "fnExactLockFree", fn := fun _ => fun
  | [d1, d2, d3] => { results := [.lit (.bool true)], args := [d1, d2, d3] }
  | _ => none }
def fnExactLockFreeRow : OpenClaim := { program := "ytjldpnhlegbjkaa", sum := "e0293a032802b0903218f9ca363a1eec34e26b9358b070df76edc1927df17e80", func := "loop.example/turnpike/laws.FnExactLockFree", spec := "fnExactLockFree", inPlace := ["slices.overlaps[loop.example/turnpike/impl.Hold]"], unfollowed := true, recurses := true, apart := false }
def FnExactLockFreeSaid : Prop := fnExactLockFreeRow.holds Try.pinned (OpenSpec.ofChange fnExactLockFreeSpec)

/-- ITS FALSE NEIGHBOUR: 'it returns false'. Refute it at one input. -/
def fnExactLockFreeWrong : ChangeSpec := { name := "fnExactLockFree", fn := fun _ => fun
  | [d1, d2, d3] => { results := [.lit (.bool false)], args := [d1, d2, d3] }
  | _ => none }
def FnExactLockFreeWrongFalsely : Prop := fnExactLockFreeRow.holds Try.pinned (OpenSpec.ofChange fnExactLockFreeWrong)

/-- 'laws.FnExactLockAsk': WHATEVER THE INPUT: true; the input reads as it did. -/
def fnExactLockAskSpec : ChangeSpec := { name := "fnExactLockAsk", fn := fun _ => fun
  | [d1, d2] => { results := [.lit (.bool true)], args := [d1, d2] }
  | _ => none }
def fnExactLockAskRow : OpenClaim := { program := "ytjldpnhlegbjkaa", sum := "e0293a032802b0903218f9ca363a1eec34e26b9358b070df76edc1927df17e80", func := "loop.example/turnpike/laws.FnExactLockAsk", spec := "fnExactLockAsk", inPlace := ["slices.overlaps[loop.example/turnpike/impl.Hold]"], unfollowed := true, recurses := true, apart := false }
def FnExactLockAskSaid : Prop := fnExactLockAskRow.holds Try.pinned (OpenSpec.ofChange fnExactLockAskSpec)

/-- ITS FALSE NEIGHBOUR: 'it returns false'. Refute it at one input. -/
def fnExactLockAskWrong : ChangeSpec := { name := "fnExactLockAsk", fn := fun _ => fun
  | [d1, d2] => { results := [.lit (.bool false)], args := [d1, d2] }
  | _ => none }
def FnExactLockAskWrongFalsely : Prop := fnExactLockAskRow.holds Try.pinned (OpenSpec.ofChange fnExactLockAskWrong)

/-- 'laws.FnLockFree': WHATEVER THE INPUT: true; the input reads as it did. -/
def fnLockFreeSpec : ChangeSpec := { name := "fnLockFree", fn := fun _ => fun
  | [d] => { results := [.lit (.bool true)], args := [d] }
  | _ => none }
def fnLockFreeRow : OpenClaim := { program := "ytjldpnhlegbjkaa", sum := "e0293a032802b0903218f9ca363a1eec34e26b9358b070df76edc1927df17e80", func := "loop.example/turnpike/laws.FnLockFree", spec := "fnLockFree", inPlace := ["slices.overlaps[loop.example/turnpike/impl.Hold]"], unfollowed := true, recurses := true, apart := false }
def FnLockFreeSaid : Prop := fnLockFreeRow.holds Try.pinned (OpenSpec.ofChange fnLockFreeSpec)

/-- ITS FALSE NEIGHBOUR: 'it returns false'. Refute it at one input. -/
def fnLockFreeWrong : ChangeSpec := { name := "fnLockFree", fn := fun _ => fun
  | [d] => { results := [.lit (.bool false)], args := [d] }
  | _ => none }
def FnLockFreeWrongFalsely : Prop := fnLockFreeRow.holds Try.pinned (OpenSpec.ofChange fnLockFreeWrong)

/-- 'laws.FnLockAsk': WHATEVER THE INPUT: true; the input reads as it did. -/
def fnLockAskSpec : ChangeSpec := { name := "fnLockAsk", fn := fun _ => fun
  | [d] => { results := [.lit (.bool true)], args := [d] }
  | _ => none }
def fnLockAskRow : OpenClaim := { program := "ytjldpnhlegbjkaa", sum := "e0293a032802b0903218f9ca363a1eec34e26b9358b070df76edc1927df17e80", func := "loop.example/turnpike/laws.FnLockAsk", spec := "fnLockAsk", inPlace := ["slices.overlaps[loop.example/turnpike/impl.Hold]"], unfollowed := true, recurses := true, apart := false }
def FnLockAskSaid : Prop := fnLockAskRow.holds Try.pinned (OpenSpec.ofChange fnLockAskSpec)

/-- ITS FALSE NEIGHBOUR: 'it returns false'. Refute it at one input. -/
def fnLockAskWrong : ChangeSpec := { name := "fnLockAsk", fn := fun _ => fun
  | [d] => { results := [.lit (.bool false)], args := [d] }
  | _ => none }
def FnLockAskWrongFalsely : Prop := fnLockAskRow.holds Try.pinned (OpenSpec.ofChange fnLockAskWrong)

/-- 'laws.FnLockElder': WHATEVER THE INPUT: true; the input reads as it did. -/
def fnLockElderSpec : ChangeSpec := { name := "fnLockElder", fn := fun _ => fun
  | [d] => { results := [.lit (.bool true)], args := [d] }
  | _ => none }
def fnLockElderRow : OpenClaim := { program := "ytjldpnhlegbjkaa", sum := "e0293a032802b0903218f9ca363a1eec34e26b9358b070df76edc1927df17e80", func := "loop.example/turnpike/laws.FnLockElder", spec := "fnLockElder", inPlace := ["slices.overlaps[loop.example/turnpike/impl.Hold]"], unfollowed := true, recurses := true, apart := false }
def FnLockElderSaid : Prop := fnLockElderRow.holds Try.pinned (OpenSpec.ofChange fnLockElderSpec)

/-- ITS FALSE NEIGHBOUR: 'it returns false'. Refute it at one input. -/
def fnLockElderWrong : ChangeSpec := { name := "fnLockElder", fn := fun _ => fun
  | [d] => { results := [.lit (.bool false)], args := [d] }
  | _ => none }
def FnLockElderWrongFalsely : Prop := fnLockElderRow.holds Try.pinned (OpenSpec.ofChange fnLockElderWrong)

/-- 'laws.FnLockShare': WHATEVER THE INPUT: true; the input reads as it did. -/
def fnLockShareSpec : ChangeSpec := { name := "fnLockShare", fn := fun _ => fun
  | [d] => { results := [.lit (.bool true)], args := [d] }
  | _ => none }
def fnLockShareRow : OpenClaim := { program := "ytjldpnhlegbjkaa", sum := "e0293a032802b0903218f9ca363a1eec34e26b9358b070df76edc1927df17e80", func := "loop.example/turnpike/laws.FnLockShare", spec := "fnLockShare", inPlace := ["slices.overlaps[loop.example/turnpike/impl.Hold]"], unfollowed := true, recurses := true, apart := false }
def FnLockShareSaid : Prop := fnLockShareRow.holds Try.pinned (OpenSpec.ofChange fnLockShareSpec)

/-- ITS FALSE NEIGHBOUR: 'it returns false'. Refute it at one input. -/
def fnLockShareWrong : ChangeSpec := { name := "fnLockShare", fn := fun _ => fun
  | [d] => { results := [.lit (.bool false)], args := [d] }
  | _ => none }
def FnLockShareWrongFalsely : Prop := fnLockShareRow.holds Try.pinned (OpenSpec.ofChange fnLockShareWrong)

/-- 'laws.FnLockTry': WHATEVER THE INPUT: true; the input reads as it did. -/
def fnLockTrySpec : ChangeSpec := { name := "fnLockTry", fn := fun _ => fun
  | [d] => { results := [.lit (.bool true)], args := [d] }
  | _ => none }
def fnLockTryRow : OpenClaim := { program := "ytjldpnhlegbjkaa", sum := "e0293a032802b0903218f9ca363a1eec34e26b9358b070df76edc1927df17e80", func := "loop.example/turnpike/laws.FnLockTry", spec := "fnLockTry", inPlace := ["slices.overlaps[loop.example/turnpike/impl.Hold]"], unfollowed := true, recurses := true, apart := false }
def FnLockTrySaid : Prop := fnLockTryRow.holds Try.pinned (OpenSpec.ofChange fnLockTrySpec)

/-- ITS FALSE NEIGHBOUR: 'it returns false'. Refute it at one input. -/
def fnLockTryWrong : ChangeSpec := { name := "fnLockTry", fn := fun _ => fun
  | [d] => { results := [.lit (.bool false)], args := [d] }
  | _ => none }
def FnLockTryWrongFalsely : Prop := fnLockTryRow.holds Try.pinned (OpenSpec.ofChange fnLockTryWrong)

/-- 'laws.FnLockTwice': WHATEVER THE INPUT: true; the input reads as it did. -/
def fnLockTwiceSpec : ChangeSpec := { name := "fnLockTwice", fn := fun _ => fun
  | [d] => { results := [.lit (.bool true)], args := [d] }
  | _ => none }
def fnLockTwiceRow : OpenClaim := { program := "ytjldpnhlegbjkaa", sum := "e0293a032802b0903218f9ca363a1eec34e26b9358b070df76edc1927df17e80", func := "loop.example/turnpike/laws.FnLockTwice", spec := "fnLockTwice", inPlace := ["slices.overlaps[loop.example/turnpike/impl.Hold]"], unfollowed := true, recurses := true, apart := false }
def FnLockTwiceSaid : Prop := fnLockTwiceRow.holds Try.pinned (OpenSpec.ofChange fnLockTwiceSpec)

/-- ITS FALSE NEIGHBOUR: 'it returns false'. Refute it at one input. -/
def fnLockTwiceWrong : ChangeSpec := { name := "fnLockTwice", fn := fun _ => fun
  | [d] => { results := [.lit (.bool false)], args := [d] }
  | _ => none }
def FnLockTwiceWrongFalsely : Prop := fnLockTwiceRow.holds Try.pinned (OpenSpec.ofChange fnLockTwiceWrong)

/-- 'laws.FnLockWait': WHATEVER THE INPUT: true; the input reads as it did. -/
def fnLockWaitSpec : ChangeSpec := { name := "fnLockWait", fn := fun _ => fun
  | [d] => { results := [.lit (.bool true)], args := [d] }
  | _ => none }
def fnLockWaitRow : OpenClaim := { program := "ytjldpnhlegbjkaa", sum := "e0293a032802b0903218f9ca363a1eec34e26b9358b070df76edc1927df17e80", func := "loop.example/turnpike/laws.FnLockWait", spec := "fnLockWait", inPlace := ["slices.overlaps[loop.example/turnpike/impl.Hold]"], unfollowed := true, recurses := true, apart := false }
def FnLockWaitSaid : Prop := fnLockWaitRow.holds Try.pinned (OpenSpec.ofChange fnLockWaitSpec)

/-- ITS FALSE NEIGHBOUR: 'it returns false'. Refute it at one input. -/
def fnLockWaitWrong : ChangeSpec := { name := "fnLockWait", fn := fun _ => fun
  | [d] => { results := [.lit (.bool false)], args := [d] }
  | _ => none }
def FnLockWaitWrongFalsely : Prop := fnLockWaitRow.holds Try.pinned (OpenSpec.ofChange fnLockWaitWrong)

/-- 'laws.FnLockFirm': WHATEVER THE INPUT: true; the input reads as it did. -/
def fnLockFirmSpec : ChangeSpec := { name := "fnLockFirm", fn := fun _ => fun
  | [d1, d2] => { results := [.lit (.bool true)], args := [d1, d2] }
  | _ => none }
def fnLockFirmRow : OpenClaim := { program := "ytjldpnhlegbjkaa", sum := "e0293a032802b0903218f9ca363a1eec34e26b9358b070df76edc1927df17e80", func := "loop.example/turnpike/laws.FnLockFirm", spec := "fnLockFirm", inPlace := ["slices.overlaps[loop.example/turnpike/impl.Hold]"], unfollowed := true, recurses := true, apart := false }
def FnLockFirmSaid : Prop := fnLockFirmRow.holds Try.pinned (OpenSpec.ofChange fnLockFirmSpec)

/-- ITS FALSE NEIGHBOUR: 'it returns false'. Refute it at one input. -/
def fnLockFirmWrong : ChangeSpec := { name := "fnLockFirm", fn := fun _ => fun
  | [d1, d2] => { results := [.lit (.bool false)], args := [d1, d2] }
  | _ => none }
def FnLockFirmWrongFalsely : Prop := fnLockFirmRow.holds Try.pinned (OpenSpec.ofChange fnLockFirmWrong)

/- THE SECOND FORM. 'bulk': how many values and letters a reading holds, each counted each time it is reached (what is shared counts as often as it is met; a slice's spare places count too). A statement '..UptoSaid' is the law's where the arguments, and the package variables that the reading takes, are together of bulk at most 1048576: NARROWER than '..Said'. Prove '..Said' where nothing that the law and all that it calls make is longer than what came in: it says more and counts as full. Else prove '..UptoSaid'. A law counts once. -/
mutual
def uptoBulk {H : Type} : DataW H → Nat
  | .lit (.string bytes) => bytes.length + 1
  | .lit _ => 1
  | .nil => 1
  | .ptr d => uptoBulk d + 1
  | .slice elems spare => uptoBulkAll elems + uptoBulkAll spare + 1
  | .agg parts => uptoBulkAll parts + 1
  | .iface _ d => uptoBulk d + 1
  | .map entries => uptoBulkEntries entries + 1
  | .held _ => 1
def uptoBulkAll {H : Type} : List (DataW H) → Nat
  | [] => 0
  | d :: r => uptoBulk d + uptoBulkAll r
def uptoBulkEntries {H : Type} : List (Lit × DataW H) → Nat
  | [] => 0
  | x :: r => uptoBulkEntry x + uptoBulkEntries r
def uptoBulkEntry {H : Type} : Lit × DataW H → Nat
  | (.string bytes, d) => bytes.length + uptoBulk d + 1
  | (_, d) => uptoBulk d + 1
 end
def uptoSmall : (H : Type) → List (DataW H) → Bool := fun _ ds => decide (uptoBulkAll ds ≤ 1048576)
def OpenSpec.upto (s : _root_.Go.ChangeSpec) : _root_.Go.OpenSpec := { _root_.Go.OpenSpec.ofChange s with cond := some uptoSmall }

/-- 'laws.FnExactLockOk', WHERE WHAT IT READS IS OF BULK AT MOST 1048576: true; the input reads as it did. -/
def fnExactLockOkUptoRow : OpenClaim := { program := "ytjldpnhlegbjkaa", sum := "e0293a032802b0903218f9ca363a1eec34e26b9358b070df76edc1927df17e80", func := "loop.example/turnpike/laws.FnExactLockOk", spec := "fnExactLockOk", unfollowed := true, recurses := true, apart := false, narrowed := true }
def FnExactLockOkUptoSaid : Prop := fnExactLockOkUptoRow.holds Try.pinned (OpenSpec.upto fnExactLockOkSpec)

/-- 'laws.FnExactLockFirm', WHERE WHAT IT READS IS OF BULK AT MOST 1048576: true; the input reads as it did. -/
def fnExactLockFirmUptoRow : OpenClaim := { program := "ytjldpnhlegbjkaa", sum := "e0293a032802b0903218f9ca363a1eec34e26b9358b070df76edc1927df17e80", func := "loop.example/turnpike/laws.FnExactLockFirm", spec := "fnExactLockFirm", unfollowed := true, recurses := true, apart := false, narrowed := true }
def FnExactLockFirmUptoSaid : Prop := fnExactLockFirmUptoRow.holds Try.pinned (OpenSpec.upto fnExactLockFirmSpec)

/-- 'laws.FnExactLockFree', WHERE WHAT IT READS IS OF BULK AT MOST 1048576: true; the input reads as it did. -/
def fnExactLockFreeUptoRow : OpenClaim := { program := "ytjldpnhlegbjkaa", sum := "e0293a032802b0903218f9ca363a1eec34e26b9358b070df76edc1927df17e80", func := "loop.example/turnpike/laws.FnExactLockFree", spec := "fnExactLockFree", inPlace := ["slices.overlaps[loop.example/turnpike/impl.Hold]"], unfollowed := true, recurses := true, apart := false, narrowed := true }
def FnExactLockFreeUptoSaid : Prop := fnExactLockFreeUptoRow.holds Try.pinned (OpenSpec.upto fnExactLockFreeSpec)

/-- 'laws.FnExactLockAsk', WHERE WHAT IT READS IS OF BULK AT MOST 1048576: true; the input reads as it did. -/
def fnExactLockAskUptoRow : OpenClaim := { program := "ytjldpnhlegbjkaa", sum := "e0293a032802b0903218f9ca363a1eec34e26b9358b070df76edc1927df17e80", func := "loop.example/turnpike/laws.FnExactLockAsk", spec := "fnExactLockAsk", inPlace := ["slices.overlaps[loop.example/turnpike/impl.Hold]"], unfollowed := true, recurses := true, apart := false, narrowed := true }
def FnExactLockAskUptoSaid : Prop := fnExactLockAskUptoRow.holds Try.pinned (OpenSpec.upto fnExactLockAskSpec)

/-- 'laws.FnLockFree', WHERE WHAT IT READS IS OF BULK AT MOST 1048576: true; the input reads as it did. -/
def fnLockFreeUptoRow : OpenClaim := { program := "ytjldpnhlegbjkaa", sum := "e0293a032802b0903218f9ca363a1eec34e26b9358b070df76edc1927df17e80", func := "loop.example/turnpike/laws.FnLockFree", spec := "fnLockFree", inPlace := ["slices.overlaps[loop.example/turnpike/impl.Hold]"], unfollowed := true, recurses := true, apart := false, narrowed := true }
def FnLockFreeUptoSaid : Prop := fnLockFreeUptoRow.holds Try.pinned (OpenSpec.upto fnLockFreeSpec)

/-- 'laws.FnLockAsk', WHERE WHAT IT READS IS OF BULK AT MOST 1048576: true; the input reads as it did. -/
def fnLockAskUptoRow : OpenClaim := { program := "ytjldpnhlegbjkaa", sum := "e0293a032802b0903218f9ca363a1eec34e26b9358b070df76edc1927df17e80", func := "loop.example/turnpike/laws.FnLockAsk", spec := "fnLockAsk", inPlace := ["slices.overlaps[loop.example/turnpike/impl.Hold]"], unfollowed := true, recurses := true, apart := false, narrowed := true }
def FnLockAskUptoSaid : Prop := fnLockAskUptoRow.holds Try.pinned (OpenSpec.upto fnLockAskSpec)

/-- 'laws.FnLockElder', WHERE WHAT IT READS IS OF BULK AT MOST 1048576: true; the input reads as it did. -/
def fnLockElderUptoRow : OpenClaim := { program := "ytjldpnhlegbjkaa", sum := "e0293a032802b0903218f9ca363a1eec34e26b9358b070df76edc1927df17e80", func := "loop.example/turnpike/laws.FnLockElder", spec := "fnLockElder", inPlace := ["slices.overlaps[loop.example/turnpike/impl.Hold]"], unfollowed := true, recurses := true, apart := false, narrowed := true }
def FnLockElderUptoSaid : Prop := fnLockElderUptoRow.holds Try.pinned (OpenSpec.upto fnLockElderSpec)

/-- 'laws.FnLockShare', WHERE WHAT IT READS IS OF BULK AT MOST 1048576: true; the input reads as it did. -/
def fnLockShareUptoRow : OpenClaim := { program := "ytjldpnhlegbjkaa", sum := "e0293a032802b0903218f9ca363a1eec34e26b9358b070df76edc1927df17e80", func := "loop.example/turnpike/laws.FnLockShare", spec := "fnLockShare", inPlace := ["slices.overlaps[loop.example/turnpike/impl.Hold]"], unfollowed := true, recurses := true, apart := false, narrowed := true }
def FnLockShareUptoSaid : Prop := fnLockShareUptoRow.holds Try.pinned (OpenSpec.upto fnLockShareSpec)

/-- 'laws.FnLockTry', WHERE WHAT IT READS IS OF BULK AT MOST 1048576: true; the input reads as it did. -/
def fnLockTryUptoRow : OpenClaim := { program := "ytjldpnhlegbjkaa", sum := "e0293a032802b0903218f9ca363a1eec34e26b9358b070df76edc1927df17e80", func := "loop.example/turnpike/laws.FnLockTry", spec := "fnLockTry", inPlace := ["slices.overlaps[loop.example/turnpike/impl.Hold]"], unfollowed := true, recurses := true, apart := false, narrowed := true }
def FnLockTryUptoSaid : Prop := fnLockTryUptoRow.holds Try.pinned (OpenSpec.upto fnLockTrySpec)

/-- 'laws.FnLockTwice', WHERE WHAT IT READS IS OF BULK AT MOST 1048576: true; the input reads as it did. -/
def fnLockTwiceUptoRow : OpenClaim := { program := "ytjldpnhlegbjkaa", sum := "e0293a032802b0903218f9ca363a1eec34e26b9358b070df76edc1927df17e80", func := "loop.example/turnpike/laws.FnLockTwice", spec := "fnLockTwice", inPlace := ["slices.overlaps[loop.example/turnpike/impl.Hold]"], unfollowed := true, recurses := true, apart := false, narrowed := true }
def FnLockTwiceUptoSaid : Prop := fnLockTwiceUptoRow.holds Try.pinned (OpenSpec.upto fnLockTwiceSpec)

/-- 'laws.FnLockWait', WHERE WHAT IT READS IS OF BULK AT MOST 1048576: true; the input reads as it did. -/
def fnLockWaitUptoRow : OpenClaim := { program := "ytjldpnhlegbjkaa", sum := "e0293a032802b0903218f9ca363a1eec34e26b9358b070df76edc1927df17e80", func := "loop.example/turnpike/laws.FnLockWait", spec := "fnLockWait", inPlace := ["slices.overlaps[loop.example/turnpike/impl.Hold]"], unfollowed := true, recurses := true, apart := false, narrowed := true }
def FnLockWaitUptoSaid : Prop := fnLockWaitUptoRow.holds Try.pinned (OpenSpec.upto fnLockWaitSpec)

/-- 'laws.FnLockFirm', WHERE WHAT IT READS IS OF BULK AT MOST 1048576: true; the input reads as it did. -/
def fnLockFirmUptoRow : OpenClaim := { program := "ytjldpnhlegbjkaa", sum := "e0293a032802b0903218f9ca363a1eec34e26b9358b070df76edc1927df17e80", func := "loop.example/turnpike/laws.FnLockFirm", spec := "fnLockFirm", inPlace := ["slices.overlaps[loop.example/turnpike/impl.Hold]"], unfollowed := true, recurses := true, apart := false, narrowed := true }
def FnLockFirmUptoSaid : Prop := fnLockFirmUptoRow.holds Try.pinned (OpenSpec.upto fnLockFirmSpec)

end Rows
end Go.Proofs.Ytjldpnhlegbjkaa
