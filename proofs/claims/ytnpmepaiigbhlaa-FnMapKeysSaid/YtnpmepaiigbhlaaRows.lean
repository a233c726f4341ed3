/-
  No cell of these rows narrows 'for every input' (looked for: loops, veiled, ifaces, maps, wideKeys, modest, calm, conditions, laid).
  DERIVED. THE GIVEN ROWS OF THIS SEAT. 12 by the template 'for every input the law returns true; each argument reads behind the call as it read before'; 0 by the template 'total and deterministic' (their statements: YtnpmepaiigbhlaaTotals.lean).
  GIVEN WITH THE SEED: the statements are not yours to turn. If you find one false, say at which input.
  Laid BY PROGRAM, IN A SANDBOX (cutbox-rows.mjs): the forced cells as the released guide's own fill.sh prints them over the translation a94e6fffff5a8058… (all of the seat's roots in one cut). By AI agents, Wed Nov 11 2026. No macro, syntax, notation, axiom, sorry.
-/
import Derived.Test.YtnpmepaiigbhlaaChecked
import GoSem.Claim
import GoSem.ClaimJoined
import GoSem.ClaimMapViews
import Derived.JoinedTies
import Derived.KernelRfl
namespace Go.Proofs.Ytnpmepaiigbhlaa
/- THE CELL 'sum', in the pinned program and in every row, IS THE sha256 OF THE DUMP (.gsa) THAT YtnpmepaiigbhlaaProg.lean LOADS. Nothing in Lean hashes anything: it is a label: what it is worth is what the hold of that sum in a sandbox is worth. -/
noncomputable def Try.pinned : Pinned := { name := "ytnpmepaiigbhlaa", sum := "a94e6fffff5a8058a3f70ed09434860575b9040dcfd2df2f4fde71072171f672", checked := Try.checked }
namespace Rows
def none {H : Type} : Left H := { results := [], args := [] }

/-- 'laws.FnExactConstants': WHATEVER THE INPUT: true; the input reads as it did. -/
def fnExactConstantsSpec : ChangeSpec := { name := "fnExactConstants", fn := fun _ => fun
  | [] => { results := [.lit (.bool true)], args := [] }
  | _ => none }
def fnExactConstantsRow : OpenClaim := { program := "ytnpmepaiigbhlaa", sum := "a94e6fffff5a8058a3f70ed09434860575b9040dcfd2df2f4fde71072171f672", func := "loop.example/turnpike/laws.FnExactConstants", spec := "fnExactConstants", apart := false }
def FnExactConstantsSaid : Prop := fnExactConstantsRow.holds Try.pinned (OpenSpec.ofChange fnExactConstantsSpec)

/-- ITS FALSE NEIGHBOUR: 'it returns false'. Refute it at one input. -/
def fnExactConstantsWrong : ChangeSpec := { name := "fnExactConstants", fn := fun _ => fun
  | [] => { results := [.lit (.bool false)], args := [] }
  | _ => none }
def FnExactConstantsWrongFalsely : Prop := fnExactConstantsRow.holds Try.pinned (OpenSpec.ofChange fnExactConstantsWrong)

/-- 'laws.FnExactMapSlot': WHATEVER THE INPUT: true; the input reads as it did. -/
def fnExactMapSlotSpec : ChangeSpec := { name := "fnExactMapSlot", fn := fun _ => fun
  | [d] => { results := [.lit (.bool true)], args := [d] }
  | _ => none }
def fnExactMapSlotRow : OpenClaim := { program := "ytnpmepaiigbhlaa", sum := "a94e6fffff5a8058a3f70ed09434860575b9040dcfd2df2f4fde71072171f672", func := "loop.example/turnpike/laws.FnExactMapSlot", spec := "fnExactMapSlot", apart := false }
def FnExactMapSlotSaid : Prop := fnExactMapSlotRow.holds Try.pinned (OpenSpec.ofChange fnExactMapSlotSpec)

/-- ITS FALSE NEIGHBOUR: 'it returns false'. Refute it at one input. -/
def fnExactMapSlotWrong : ChangeSpec := { name := "fnExactMapSlot", fn := fun _ => fun
  | [d] => { results := [.lit (.bool false)], args := [d] }
  | _ => none }
def FnExactMapSlotWrongFalsely : Prop := fnExactMapSlotRow.holds Try.pinned (OpenSpec.ofChange fnExactMapSlotWrong)

/-- 'laws.FnExactMapStart': WHATEVER THE INPUT: true; the input reads as it did. -/
def fnExactMapStartSpec : ChangeSpec := { name := "fnExactMapStart", fn := fun _ => fun
  | [] => { results := [.lit (.bool true)], args := [] }
  | _ => none }
def fnExactMapStartRow : OpenClaim := { program := "ytnpmepaiigbhlaa", sum := "a94e6fffff5a8058a3f70ed09434860575b9040dcfd2df2f4fde71072171f672", func := "loop.example/turnpike/laws.FnExactMapStart", spec := "fnExactMapStart", apart := false }
def FnExactMapStartSaid : Prop := fnExactMapStartRow.holds Try.pinned (OpenSpec.ofChange fnExactMapStartSpec)

/-- ITS FALSE NEIGHBOUR: 'it returns false'. Refute it at one input. -/
def fnExactMapStartWrong : ChangeSpec := { name := "fnExactMapStart", fn := fun _ => fun
  | [] => { results := [.lit (.bool false)], args := [] }
  | _ => none }
def FnExactMapStartWrongFalsely : Prop := fnExactMapStartRow.holds Try.pinned (OpenSpec.ofChange fnExactMapStartWrong)

/-- 'laws.FnExactMapOk': WHATEVER THE INPUT: true; the input reads as it did. -/
def fnExactMapOkSpec : ChangeSpec := { name := "fnExactMapOk", fn := fun _ => fun
  | [d] => { results := [.lit (.bool true)], args := [d] }
  | _ => none }
def fnExactMapOkRow : OpenClaim := { program := "ytnpmepaiigbhlaa", sum := "a94e6fffff5a8058a3f70ed09434860575b9040dcfd2df2f4fde71072171f672", func := "loop.example/turnpike/laws.FnExactMapOk", spec := "fnExactMapOk", apart := false }
def FnExactMapOkSaid : Prop := fnExactMapOkRow.holds Try.pinned (OpenSpec.ofChange fnExactMapOkSpec)

/-- ITS FALSE NEIGHBOUR: 'it returns false'. Refute it at one input. -/
def fnExactMapOkWrong : ChangeSpec := { name := "fnExactMapOk", fn := fun _ => fun
  | [d] => { results := [.lit (.bool false)], args := [d] }
  | _ => none }
def FnExactMapOkWrongFalsely : Prop := fnExactMapOkRow.holds Try.pinned (OpenSpec.ofChange fnExactMapOkWrong)

/-- 'laws.FnExactMapHouse': WHATEVER THE INPUT: true; the input reads as it did. -/
def fnExactMapHouseSpec : ChangeSpec := { name := "fnExactMapHouse", fn := fun _ => fun
  | [d1, d2] => { results := [.lit (.bool true)], args := [d1, d2] }
  | _ => none }
def fnExactMapHouseRow : OpenClaim := { program := "ytnpmepaiigbhlaa", sum := "a94e6fffff5a8058a3f70ed09434860575b9040dcfd2df2f4fde71072171f672", func := "loop.example/turnpike/laws.FnExactMapHouse", spec := "fnExactMapHouse", unfollowed := true, recurses := true, apart := false }
def FnExactMapHouseSaid : Prop := fnExactMapHouseRow.holds Try.pinned (OpenSpec.ofChange fnExactMapHouseSpec)

/-- ITS FALSE NEIGHBOUR: 'it returns false'. Refute it at one input. -/
def fnExactMapHouseWrong : ChangeSpec := { name := "fnExactMapHouse", fn := fun _ => fun
  | [d1, d2] => { results := [.lit (.bool false)], args := [d1, d2] }
  | _ => none }
def FnExactMapHouseWrongFalsely : Prop := fnExactMapHouseRow.holds Try.pinned (OpenSpec.ofChange fnExactMapHouseWrong)

/-- 'laws.FnMapBack': WHATEVER THE INPUT: true; the input reads as it did. -/
def fnMapBackSpec : ChangeSpec := { name := "fnMapBack", fn := fun _ => fun
  | [d] => { results := [.lit (.bool true)], args := [d] }
  | _ => none }
def fnMapBackRow : OpenClaim := { program := "ytnpmepaiigbhlaa", sum := "a94e6fffff5a8058a3f70ed09434860575b9040dcfd2df2f4fde71072171f672", func := "loop.example/turnpike/laws.FnMapBack", spec := "fnMapBack", apart := false }
def FnMapBackSaid : Prop := fnMapBackRow.holds Try.pinned (OpenSpec.ofChange fnMapBackSpec)

/-- ITS FALSE NEIGHBOUR: 'it returns false'. Refute it at one input. -/
def fnMapBackWrong : ChangeSpec := { name := "fnMapBack", fn := fun _ => fun
  | [d] => { results := [.lit (.bool false)], args := [d] }
  | _ => none }
def FnMapBackWrongFalsely : Prop := fnMapBackRow.holds Try.pinned (OpenSpec.ofChange fnMapBackWrong)

/-- 'laws.FnMapMove': WHATEVER THE INPUT: true; the input reads as it did. -/
def fnMapMoveSpec : ChangeSpec := { name := "fnMapMove", fn := fun _ => fun
  | [d] => { results := [.lit (.bool true)], args := [d] }
  | _ => none }
def fnMapMoveRow : OpenClaim := { program := "ytnpmepaiigbhlaa", sum := "a94e6fffff5a8058a3f70ed09434860575b9040dcfd2df2f4fde71072171f672", func := "loop.example/turnpike/laws.FnMapMove", spec := "fnMapMove", apart := false }
def FnMapMoveSaid : Prop := fnMapMoveRow.holds Try.pinned (OpenSpec.ofChange fnMapMoveSpec)

/-- ITS FALSE NEIGHBOUR: 'it returns false'. Refute it at one input. -/
def fnMapMoveWrong : ChangeSpec := { name := "fnMapMove", fn := fun _ => fun
  | [d] => { results := [.lit (.bool false)], args := [d] }
  | _ => none }
def FnMapMoveWrongFalsely : Prop := fnMapMoveRow.holds Try.pinned (OpenSpec.ofChange fnMapMoveWrong)

/-- 'laws.FnMapTurn': WHATEVER THE INPUT: true; the input reads as it did. -/
def fnMapTurnSpec : ChangeSpec := { name := "fnMapTurn", fn := fun _ => fun
  | [d1, d2] => { results := [.lit (.bool true)], args := [d1, d2] }
  | _ => none }
def fnMapTurnRow : OpenClaim := { program := "ytnpmepaiigbhlaa", sum := "a94e6fffff5a8058a3f70ed09434860575b9040dcfd2df2f4fde71072171f672", func := "loop.example/turnpike/laws.FnMapTurn", spec := "fnMapTurn", apart := false }
def FnMapTurnSaid : Prop := fnMapTurnRow.holds Try.pinned (OpenSpec.ofChange fnMapTurnSpec)

/-- ITS FALSE NEIGHBOUR: 'it returns false'. Refute it at one input. -/
def fnMapTurnWrong : ChangeSpec := { name := "fnMapTurn", fn := fun _ => fun
  | [d1, d2] => { results := [.lit (.bool false)], args := [d1, d2] }
  | _ => none }
def FnMapTurnWrongFalsely : Prop := fnMapTurnRow.holds Try.pinned (OpenSpec.ofChange fnMapTurnWrong)

/-- 'laws.FnExactMapMove': WHATEVER THE INPUT: true; the input reads as it did. -/
def fnExactMapMoveSpec : ChangeSpec := { name := "fnExactMapMove", fn := fun _ => fun
  | [d1, d2, d3] => { results := [.lit (.bool true)], args := [d1, d2, d3] }
  | _ => none }
def fnExactMapMoveRow : OpenClaim := { program := "ytnpmepaiigbhlaa", sum := "a94e6fffff5a8058a3f70ed09434860575b9040dcfd2df2f4fde71072171f672", func := "loop.example/turnpike/laws.FnExactMapMove", spec := "fnExactMapMove", apart := false }
def FnExactMapMoveSaid : Prop := fnExactMapMoveRow.holds Try.pinned (OpenSpec.ofChange fnExactMapMoveSpec)

/-- ITS FALSE NEIGHBOUR: 'it returns false'. Refute it at one input. -/
def fnExactMapMoveWrong : ChangeSpec := { name := "fnExactMapMove", fn := fun _ => fun
  | [d1, d2, d3] => { results := [.lit (.bool false)], args := [d1, d2, d3] }
  | _ => none }
def FnExactMapMoveWrongFalsely : Prop := fnExactMapMoveRow.holds Try.pinned (OpenSpec.ofChange fnExactMapMoveWrong)

/-- 'laws.FnMapKeys': WHATEVER THE INPUT: true; the input reads as it did. -/
def fnMapKeysSpec : ChangeSpec := { name := "fnMapKeys", fn := fun _ => fun
  | [d] => { results := [.lit (.bool true)], args := [d] }
  | _ => none }
def fnMapKeysRow : OpenClaim := { program := "ytnpmepaiigbhlaa", sum := "a94e6fffff5a8058a3f70ed09434860575b9040dcfd2df2f4fde71072171f672", func := "loop.example/turnpike/laws.FnMapKeys", spec := "fnMapKeys", unfollowed := true, recurses := true, apart := false }
def FnMapKeysSaid : Prop := fnMapKeysRow.holds Try.pinned (OpenSpec.ofChange fnMapKeysSpec)

/-- ITS FALSE NEIGHBOUR: 'it returns false'. Refute it at one input. -/
def fnMapKeysWrong : ChangeSpec := { name := "fnMapKeys", fn := fun _ => fun
  | [d] => { results := [.lit (.bool false)], args := [d] }
  | _ => none }
def FnMapKeysWrongFalsely : Prop := fnMapKeysRow.holds Try.pinned (OpenSpec.ofChange fnMapKeysWrong)

/-- 'laws.FnExactPairsPut': WHATEVER THE INPUT: true; the input reads as it did. -/
def fnExactPairsPutSpec : ChangeSpec := { name := "fnExactPairsPut", fn := fun _ => fun
  | [d1, d2] => { results := [.lit (.bool true)], args := [d1, d2] }
  | _ => none }
def fnExactPairsPutRow : OpenClaim := { program := "ytnpmepaiigbhlaa", sum := "a94e6fffff5a8058a3f70ed09434860575b9040dcfd2df2f4fde71072171f672", func := "loop.example/turnpike/laws.FnExactPairsPut", spec := "fnExactPairsPut", apart := false }
def FnExactPairsPutSaid : Prop := fnExactPairsPutRow.holds Try.pinned (OpenSpec.ofChange fnExactPairsPutSpec)

/-- ITS FALSE NEIGHBOUR: 'it returns false'. Refute it at one input. -/
def fnExactPairsPutWrong : ChangeSpec := { name := "fnExactPairsPut", fn := fun _ => fun
  | [d1, d2] => { results := [.lit (.bool false)], args := [d1, d2] }
  | _ => none }
def FnExactPairsPutWrongFalsely : Prop := fnExactPairsPutRow.holds Try.pinned (OpenSpec.ofChange fnExactPairsPutWrong)

/-- 'laws.FnPairsPut': WHATEVER THE INPUT: true; the input reads as it did. -/
def fnPairsPutSpec : ChangeSpec := { name := "fnPairsPut", fn := fun _ => fun
  | [d] => { results := [.lit (.bool true)], args := [d] }
  | _ => none }
def fnPairsPutRow : OpenClaim := { program := "ytnpmepaiigbhlaa", sum := "a94e6fffff5a8058a3f70ed09434860575b9040dcfd2df2f4fde71072171f672", func := "loop.example/turnpike/laws.FnPairsPut", spec := "fnPairsPut", apart := false }
def FnPairsPutSaid : Prop := fnPairsPutRow.holds Try.pinned (OpenSpec.ofChange fnPairsPutSpec)

/-- ITS FALSE NEIGHBOUR: 'it returns false'. Refute it at one input. -/
def fnPairsPutWrong : ChangeSpec := { name := "fnPairsPut", fn := fun _ => fun
  | [d] => { results := [.lit (.bool false)], args := [d] }
  | _ => none }
def FnPairsPutWrongFalsely : Prop := fnPairsPutRow.holds Try.pinned (OpenSpec.ofChange fnPairsPutWrong)

/- THE SECOND FORM. 'bulk': how many values and letters a reading holds, each counted each time it is reached (what is shared counts as often as it is met; a slice's spare places count too). A statement '..UptoSaid' is the law's where the arguments, and the package variables that the reading takes, are together of bulk at most 1048576: NARROWER than '..Said'. Prove '..Said' where nothing that the law and all that it calls make is longer than what came in: it says more and counts as full. Else prove '..UptoSaid'. A law counts once. -/
mutual
def uptoBulk {H : Type} : DataW H → Nat
  | .lit (.string bytes) => bytes.length + 1
  | .lit _ => 1
  | .nil => 1
  | .ptr d => uptoBulk d + 1
  | .slice elems spare => uptoBulkAll elems + uptoBulkAll spare + 1
  | .agg parts => uptoBulkAll parts + 1
  | .iface _ d => uptoBulk d + 1
  | .map entries => uptoBulkEntries entries + 1
  | .held _ => 1
def uptoBulkAll {H : Type} : List (DataW H) → Nat
  | [] => 0
  | d :: r => uptoBulk d + uptoBulkAll r
def uptoBulkEntries {H : Type} : List (Lit × DataW H) → Nat
  | [] => 0
  | x :: r => uptoBulkEntry x + uptoBulkEntries r
def uptoBulkEntry {H : Type} : Lit × DataW H → Nat
  | (.string bytes, d) => bytes.length + uptoBulk d + 1
  | (_, d) => uptoBulk d + 1
 end
def uptoSmall : (H : Type) → List (DataW H) → Bool := fun _ ds => decide (uptoBulkAll ds ≤ 1048576)
def OpenSpec.upto (s : _root_.Go.ChangeSpec) : _root_.Go.OpenSpec := { _root_.Go.OpenSpec.ofChange s with cond := some uptoSmall }

/-- 'laws.FnExactConstants', WHERE WHAT IT READS IS OF BULK AT MOST 1048576: true; the input reads as it did. -/
def fnExactConstantsUptoRow : OpenClaim := { program := "ytnpmepaiigbhlaa", sum := "a94e6fffff5a8058a3f70ed09434860575b9040dcfd2df2f4fde71072171f672", func := "loop.example/turnpike/laws.FnExactConstants", spec := "fnExactConstants", apart := false, narrowed := true }
def FnExactConstantsUptoSaid : Prop := fnExactConstantsUptoRow.holds Try.pinned (OpenSpec.upto fnExactConstantsSpec)

/-- 'laws.FnExactMapSlot', WHERE WHAT IT READS IS OF BULK AT MOST 1048576: true; the input reads as it did. -/
def fnExactMapSlotUptoRow : OpenClaim := { program := "ytnpmepaiigbhlaa", sum := "a94e6fffff5a8058a3f70ed09434860575b9040dcfd2df2f4fde71072171f672", func := "loop.example/turnpike/laws.FnExactMapSlot", spec := "fnExactMapSlot", apart := false, narrowed := true }
def FnExactMapSlotUptoSaid : Prop := fnExactMapSlotUptoRow.holds Try.pinned (OpenSpec.upto fnExactMapSlotSpec)

/-- 'laws.FnExactMapStart', WHERE WHAT IT READS IS OF BULK AT MOST 1048576: true; the input reads as it did. -/
def fnExactMapStartUptoRow : OpenClaim := { program := "ytnpmepaiigbhlaa", sum := "a94e6fffff5a8058a3f70ed09434860575b9040dcfd2df2f4fde71072171f672", func := "loop.example/turnpike/laws.FnExactMapStart", spec := "fnExactMapStart", apart := false, narrowed := true }
def FnExactMapStartUptoSaid : Prop := fnExactMapStartUptoRow.holds Try.pinned (OpenSpec.upto fnExactMapStartSpec)

/-- 'laws.FnExactMapOk', WHERE WHAT IT READS IS OF BULK AT MOST 1048576: true; the input reads as it did. -/
def fnExactMapOkUptoRow : OpenClaim := { program := "ytnpmepaiigbhlaa", sum := "a94e6fffff5a8058a3f70ed09434860575b9040dcfd2df2f4fde71072171f672", func := "loop.example/turnpike/laws.FnExactMapOk", spec := "fnExactMapOk", apart := false, narrowed := true }
def FnExactMapOkUptoSaid : Prop := fnExactMapOkUptoRow.holds Try.pinned (OpenSpec.upto fnExactMapOkSpec)

/-- 'laws.FnExactMapHouse', WHERE WHAT IT READS IS OF BULK AT MOST 1048576: true; the input reads as it did. -/
def fnExactMapHouseUptoRow : OpenClaim := { program := "ytnpmepaiigbhlaa", sum := "a94e6fffff5a8058a3f70ed09434860575b9040dcfd2df2f4fde71072171f672", func := "loop.example/turnpike/laws.FnExactMapHouse", spec := "fnExactMapHouse", unfollowed := true, recurses := true, apart := false, narrowed := true }
def FnExactMapHouseUptoSaid : Prop := fnExactMapHouseUptoRow.holds Try.pinned (OpenSpec.upto fnExactMapHouseSpec)

/-- 'laws.FnMapBack', WHERE WHAT IT READS IS OF BULK AT MOST 1048576: true; the input reads as it did. -/
def fnMapBackUptoRow : OpenClaim := { program := "ytnpmepaiigbhlaa", sum := "a94e6fffff5a8058a3f70ed09434860575b9040dcfd2df2f4fde71072171f672", func := "loop.example/turnpike/laws.FnMapBack", spec := "fnMapBack", apart := false, narrowed := true }
def FnMapBackUptoSaid : Prop := fnMapBackUptoRow.holds Try.pinned (OpenSpec.upto fnMapBackSpec)

/-- 'laws.FnMapMove', WHERE WHAT IT READS IS OF BULK AT MOST 1048576: true; the input reads as it did. -/
def fnMapMoveUptoRow : OpenClaim := { program := "ytnpmepaiigbhlaa", sum := "a94e6fffff5a8058a3f70ed09434860575b9040dcfd2df2f4fde71072171f672", func := "loop.example/turnpike/laws.FnMapMove", spec := "fnMapMove", apart := false, narrowed := true }
def FnMapMoveUptoSaid : Prop := fnMapMoveUptoRow.holds Try.pinned (OpenSpec.upto fnMapMoveSpec)

/-- 'laws.FnMapTurn', WHERE WHAT IT READS IS OF BULK AT MOST 1048576: true; the input reads as it did. -/
def fnMapTurnUptoRow : OpenClaim := { program := "ytnpmepaiigbhlaa", sum := "a94e6fffff5a8058a3f70ed09434860575b9040dcfd2df2f4fde71072171f672", func := "loop.example/turnpike/laws.FnMapTurn", spec := "fnMapTurn", apart := false, narrowed := true }
def FnMapTurnUptoSaid : Prop := fnMapTurnUptoRow.holds Try.pinned (OpenSpec.upto fnMapTurnSpec)

/-- 'laws.FnExactMapMove', WHERE WHAT IT READS IS OF BULK AT MOST 1048576: true; the input reads as it did. -/
def fnExactMapMoveUptoRow : OpenClaim := { program := "ytnpmepaiigbhlaa", sum := "a94e6fffff5a8058a3f70ed09434860575b9040dcfd2df2f4fde71072171f672", func := "loop.example/turnpike/laws.FnExactMapMove", spec := "fnExactMapMove", apart := false, narrowed := true }
def FnExactMapMoveUptoSaid : Prop := fnExactMapMoveUptoRow.holds Try.pinned (OpenSpec.upto fnExactMapMoveSpec)

/-- 'laws.FnMapKeys', WHERE WHAT IT READS IS OF BULK AT MOST 1048576: true; the input reads as it did. -/
def fnMapKeysUptoRow : OpenClaim := { program := "ytnpmepaiigbhlaa", sum := "a94e6fffff5a8058a3f70ed09434860575b9040dcfd2df2f4fde71072171f672", func := "loop.example/turnpike/laws.FnMapKeys", spec := "fnMapKeys", unfollowed := true, recurses := true, apart := false, narrowed := true }
def FnMapKeysUptoSaid : Prop := fnMapKeysUptoRow.holds Try.pinned (OpenSpec.upto fnMapKeysSpec)

/-- 'laws.FnExactPairsPut', WHERE WHAT IT READS IS OF BULK AT MOST 1048576: true; the input reads as it did. -/
def fnExactPairsPutUptoRow : OpenClaim := { program := "ytnpmepaiigbhlaa", sum := "a94e6fffff5a8058a3f70ed09434860575b9040dcfd2df2f4fde71072171f672", func := "loop.example/turnpike/laws.FnExactPairsPut", spec := "fnExactPairsPut", apart := false, narrowed := true }
def FnExactPairsPutUptoSaid : Prop := fnExactPairsPutUptoRow.holds Try.pinned (OpenSpec.upto fnExactPairsPutSpec)

/-- 'laws.FnPairsPut', WHERE WHAT IT READS IS OF BULK AT MOST 1048576: true; the input reads as it did. -/
def fnPairsPutUptoRow : OpenClaim := { program := "ytnpmepaiigbhlaa", sum := "a94e6fffff5a8058a3f70ed09434860575b9040dcfd2df2f4fde71072171f672", func := "loop.example/turnpike/laws.FnPairsPut", spec := "fnPairsPut", apart := false, narrowed := true }
def FnPairsPutUptoSaid : Prop := fnPairsPutUptoRow.holds Try.pinned (OpenSpec.upto fnPairsPutSpec)

end Rows
end Go.Proofs.Ytnpmepaiigbhlaa
