/-
  No cell of these rows narrows 'for every input' (looked for: loops, veiled, ifaces, maps, wideKeys, modest, calm, conditions, laid).
  DERIVED. THE GIVEN ROWS OF THIS SEAT. 3 by the template 'for every input the law returns true; each argument reads behind the call as it read before'; 0 by the template 'total and deterministic' (their statements: YthahadclegihaaaTotals.lean).
  GIVEN WITH THE SEED: the statements are not yours to turn. If you find one false, say at which input.
  Laid BY PROGRAM, IN A SANDBOX (cutbox-rows.mjs): the forced cells as the released guide's own fill.sh prints them over the translation a91e06eb40088562… (all of the seat's roots in one cut). By AI agents, Wed Nov 11 2026. No macro, syntax, notation, axiom, sorry.
-/
import Derived.Test.YthahadclegihaaaChecked
import GoSem.Claim
import GoSem.ClaimJoined
import GoSem.ClaimMapViews
import Derived.JoinedTies
import Derived.KernelRfl
namespace Go.Proofs.Ythahadclegihaaa
/- THE CELL 'sum', in the pinned program and in every row, IS THE sha256 OF THE DUMP (.gsa) THAT YthahadclegihaaaProg.lean LOADS. Nothing in Lean hashes anything: it is a label: what it is worth is what the hold of that sum in a sandbox is worth. -/
noncomputable def Try.pinned : Pinned := { name := "ythahadclegihaaa", sum := "a91e06eb40088562cfc8411243a410d84f6dbd1c9ebe1ab8ce03a51da0880fa9", checked := Try.checked }
namespace Rows
def none {H : Type} : Left H := { results := [], args := [] }

/-- 'laws.FnExactHouseStart': WHATEVER THE INPUT: true; the input reads as it did. -/
def fnExactHouseStartSpec : ChangeSpec := { name := "fnExactHouseStart", fn := fun _ => fun
  | [d] => { results := [.lit (.bool true)], args := [d] }
  | _ => none }
def fnExactHouseStartRow : OpenClaim := { program := "ythahadclegihaaa", sum := "a91e06eb40088562cfc8411243a410d84f6dbd1c9ebe1ab8ce03a51da0880fa9", func := "loop.example/turnpike/laws.FnExactHouseStart", spec := "fnExactHouseStart", apart := false }
def FnExactHouseStartSaid : Prop := fnExactHouseStartRow.holds Try.pinned (OpenSpec.ofChange fnExactHouseStartSpec)

/-- ITS FALSE NEIGHBOUR: 'it returns false'. Refute it at one input. -/
def fnExactHouseStartWrong : ChangeSpec := { name := "fnExactHouseStart", fn := fun _ => fun
  | [d] => { results := [.lit (.bool false)], args := [d] }
  | _ => none }
def FnExactHouseStartWrongFalsely : Prop := fnExactHouseStartRow.holds Try.pinned (OpenSpec.ofChange fnExactHouseStartWrong)

/-- 'laws.FnExactTollStart': WHATEVER THE INPUT: true; the input reads as it did. -/
def fnExactTollStartSpec : ChangeSpec := { name := "fnExactTollStart", fn := fun _ => fun
  | [] => { results := [.lit (.bool true)], args := [] }
  | _ => none }
def fnExactTollStartRow : OpenClaim := { program := "ythahadclegihaaa", sum := "a91e06eb40088562cfc8411243a410d84f6dbd1c9ebe1ab8ce03a51da0880fa9", func := "loop.example/turnpike/laws.FnExactTollStart", spec := "fnExactTollStart", apart := false }
def FnExactTollStartSaid : Prop := fnExactTollStartRow.holds Try.pinned (OpenSpec.ofChange fnExactTollStartSpec)

/-- ITS FALSE NEIGHBOUR: 'it returns false'. Refute it at one input. -/
def fnExactTollStartWrong : ChangeSpec := { name := "fnExactTollStart", fn := fun _ => fun
  | [] => { results := [.lit (.bool false)], args := [] }
  | _ => none }
def FnExactTollStartWrongFalsely : Prop := fnExactTollStartRow.holds Try.pinned (OpenSpec.ofChange fnExactTollStartWrong)

/-- 'laws.FnExactGateStart': WHATEVER THE INPUT: true; the input reads as it did. -/
def fnExactGateStartSpec : ChangeSpec := { name := "fnExactGateStart", fn := fun _ => fun
  | [] => { results := [.lit (.bool true)], args := [] }
  | _ => none }
def fnExactGateStartRow : OpenClaim := { program := "ythahadclegihaaa", sum := "a91e06eb40088562cfc8411243a410d84f6dbd1c9ebe1ab8ce03a51da0880fa9", func := "loop.example/turnpike/laws.FnExactGateStart", spec := "fnExactGateStart", apart := false }
def FnExactGateStartSaid : Prop := fnExactGateStartRow.holds Try.pinned (OpenSpec.ofChange fnExactGateStartSpec)

/-- ITS FALSE NEIGHBOUR: 'it returns false'. Refute it at one input. -/
def fnExactGateStartWrong : ChangeSpec := { name := "fnExactGateStart", fn := fun _ => fun
  | [] => { results := [.lit (.bool false)], args := [] }
  | _ => none }
def FnExactGateStartWrongFalsely : Prop := fnExactGateStartRow.holds Try.pinned (OpenSpec.ofChange fnExactGateStartWrong)

/- THE SECOND FORM. 'bulk': how many values and letters a reading holds, each counted each time it is reached (what is shared counts as often as it is met; a slice's spare places count too). A statement '..UptoSaid' is the law's where the arguments, and the package variables that the reading takes, are together of bulk at most 1048576: NARROWER than '..Said'. Prove '..Said' where nothing that the law and all that it calls make is longer than what came in: it says more and counts as full. Else prove '..UptoSaid'. A law counts once. -/
mutual
def uptoBulk {H : Type} : DataW H → Nat
  | .lit (.string bytes) => bytes.length + 1
  | .lit _ => 1
  | .nil => 1
  | .ptr d => uptoBulk d + 1
  | .slice elems spare => uptoBulkAll elems + uptoBulkAll spare + 1
  | .agg parts => uptoBulkAll parts + 1
  | .iface _ d => uptoBulk d + 1
  | .map entries => uptoBulkEntries entries + 1
  | .held _ => 1
def uptoBulkAll {H : Type} : List (DataW H) → Nat
  | [] => 0
  | d :: r => uptoBulk d + uptoBulkAll r
def uptoBulkEntries {H : Type} : List (Lit × DataW H) → Nat
  | [] => 0
  | x :: r => uptoBulkEntry x + uptoBulkEntries r
def uptoBulkEntry {H : Type} : Lit × DataW H → Nat
  | (.string bytes, d) => bytes.length + uptoBulk d + 1
  | (_, d) => uptoBulk d + 1
 end
def uptoSmall : (H : Type) → List (DataW H) → Bool := fun _ ds => decide (uptoBulkAll ds ≤ 1048576)
def OpenSpec.upto (s : _root_.Go.ChangeSpec) : _root_.Go.OpenSpec := { _root_.Go.OpenSpec.ofChange s with cond := some uptoSmall }

/-- 'laws.FnExactHouseStart', WHERE WHAT IT READS IS OF BULK AT MOST 1048576: true; the input reads as it did. -/
def fnExactHouseStartUptoRow : OpenClaim := { program := "ythahadclegihaaa", sum := "a91e06eb40088562cfc8411243a410d84f6dbd1c9ebe1ab8ce03a51da0880fa9", func := "loop.example/turnpike/laws.FnExactHouseStart", spec := "fnExactHouseStart", apart := false, narrowed := true }
def FnExactHouseStartUptoSaid : Prop := fnExactHouseStartUptoRow.holds Try.pinned (OpenSpec.upto fnExactHouseStartSpec)

/-- 'laws.FnExactTollStart', WHERE WHAT IT READS IS OF BULK AT MOST 1048576: true; the input reads as it did. -/
def fnExactTollStartUptoRow : OpenClaim := { program := "ythahadclegihaaa", sum := "a91e06eb40088562cfc8411243a410d84f6dbd1c9ebe1ab8ce03a51da0880fa9", func := "loop.example/turnpike/laws.FnExactTollStart", spec := "fnExactTollStart", apart := false, narrowed := true }
def FnExactTollStartUptoSaid : Prop := fnExactTollStartUptoRow.holds Try.pinned (OpenSpec.upto fnExactTollStartSpec)

/-- 'laws.FnExactGateStart', WHERE WHAT IT READS IS OF BULK AT MOST 1048576: true; the input reads as it did. -/
def fnExactGateStartUptoRow : OpenClaim := { program := "ythahadclegihaaa", sum := "a91e06eb40088562cfc8411243a410d84f6dbd1c9ebe1ab8ce03a51da0880fa9", func := "loop.example/turnpike/laws.FnExactGateStart", spec := "fnExactGateStart", apart := false, narrowed := true }
def FnExactGateStartUptoSaid : Prop := fnExactGateStartUptoRow.holds Try.pinned (OpenSpec.upto fnExactGateStartSpec)

end Rows
end Go.Proofs.Ythahadclegihaaa
