/-
  No cell of these rows narrows 'for every input' (looked for: loops, veiled, ifaces, maps, wideKeys, modest, calm, conditions, laid).
  DERIVED. THE GIVEN ROWS OF THIS SEAT. 16 by the template 'for every input the law returns true; each argument reads behind the call as it read before'; 0 by the template 'total and deterministic' (their statements: YtmljdibhdnckpaaTotals.lean).
  GIVEN WITH THE SEED: the statements are not yours to turn. If you find one false, say at which input.
  Laid BY PROGRAM, IN A SANDBOX (cutbox-rows.mjs): the forced cells as the released guide's own fill.sh prints them over the translation 614a237d7fdb1f56… (all of the seat's roots in one cut). By AI agents, Wed Nov 11 2026. No macro, syntax, notation, axiom, sorry.
-/
import Derived.Test.YtmljdibhdnckpaaChecked
import GoSem.Claim
import GoSem.ClaimJoined
import GoSem.ClaimMapViews
import Derived.JoinedTies
import Derived.KernelRfl
namespace Go.Proofs.Ytmljdibhdnckpaa
/- THE CELL 'sum', in the pinned program and in every row, IS THE sha256 OF THE DUMP (.gsa) THAT YtmljdibhdnckpaaProg.lean LOADS. Nothing in Lean hashes anything: it is a label: what it is worth is what the hold of that sum in a sandbox is worth. -/
noncomputable def Try.pinned : Pinned := { name := "ytmljdibhdnckpaa", sum := "614a237d7fdb1f56319730be4fb7a687dee4b47d42761eab983b011626cf12b8", checked := Try.checked }
namespace Rows
def none {H : Type} : Left H := { results := [], args := [] }

/-- 'laws.FnExactLeastSorting': WHATEVER THE INPUT: true; the input reads as it did. -/
def fnExactLeastSortingSpec : ChangeSpec := { name := "fnExactLeastSorting", fn := fun _ => fun
  | [d] => { results := [.lit (.bool true)], args := [d] }
  | _ => none }
def fnExactLeastSortingRow : OpenClaim := { program := "ytmljdibhdnckpaa", sum := "614a237d7fdb1f56319730be4fb7a687dee4b47d42761eab983b011626cf12b8", func := "loop.example/g01209/laws.FnExactLeastSorting", spec := "fnExactLeastSorting", apart := false }
def FnExactLeastSortingSaid : Prop := fnExactLeastSortingRow.holds Try.pinned (OpenSpec.ofChange fnExactLeastSortingSpec)

/-- ITS FALSE NEIGHBOUR: 'it returns false'. Refute it at one input. -/
def fnExactLeastSortingWrong : ChangeSpec := { name := "fnExactLeastSorting", fn := fun _ => fun
  | [d] => { results := [.lit (.bool false)], args := [d] }
  | _ => none }
def FnExactLeastSortingWrongFalsely : Prop := fnExactLeastSortingRow.holds Try.pinned (OpenSpec.ofChange fnExactLeastSortingWrong)

/-- 'laws.FnExactBubbleLadder': WHATEVER THE INPUT: true; the input reads as it did. -/
def fnExactBubbleLadderSpec : ChangeSpec := { name := "fnExactBubbleLadder", fn := fun _ => fun
  | [d] => { results := [.lit (.bool true)], args := [d] }
  | _ => none }
def fnExactBubbleLadderRow : OpenClaim := { program := "ytmljdibhdnckpaa", sum := "614a237d7fdb1f56319730be4fb7a687dee4b47d42761eab983b011626cf12b8", func := "loop.example/g01209/laws.FnExactBubbleLadder", spec := "fnExactBubbleLadder", apart := false }
def FnExactBubbleLadderSaid : Prop := fnExactBubbleLadderRow.holds Try.pinned (OpenSpec.ofChange fnExactBubbleLadderSpec)

/-- ITS FALSE NEIGHBOUR: 'it returns false'. Refute it at one input. -/
def fnExactBubbleLadderWrong : ChangeSpec := { name := "fnExactBubbleLadder", fn := fun _ => fun
  | [d] => { results := [.lit (.bool false)], args := [d] }
  | _ => none }
def FnExactBubbleLadderWrongFalsely : Prop := fnExactBubbleLadderRow.holds Try.pinned (OpenSpec.ofChange fnExactBubbleLadderWrong)

/-- 'laws.FnExactPassesOf': WHATEVER THE INPUT: true; the input reads as it did. -/
def fnExactPassesOfSpec : ChangeSpec := { name := "fnExactPassesOf", fn := fun _ => fun
  | [d] => { results := [.lit (.bool true)], args := [d] }
  | _ => none }
def fnExactPassesOfRow : OpenClaim := { program := "ytmljdibhdnckpaa", sum := "614a237d7fdb1f56319730be4fb7a687dee4b47d42761eab983b011626cf12b8", func := "loop.example/g01209/laws.FnExactPassesOf", spec := "fnExactPassesOf", unfollowed := true, recurses := true, apart := false }
def FnExactPassesOfSaid : Prop := fnExactPassesOfRow.holds Try.pinned (OpenSpec.ofChange fnExactPassesOfSpec)

/-- ITS FALSE NEIGHBOUR: 'it returns false'. Refute it at one input. -/
def fnExactPassesOfWrong : ChangeSpec := { name := "fnExactPassesOf", fn := fun _ => fun
  | [d] => { results := [.lit (.bool false)], args := [d] }
  | _ => none }
def FnExactPassesOfWrongFalsely : Prop := fnExactPassesOfRow.holds Try.pinned (OpenSpec.ofChange fnExactPassesOfWrong)

/-- 'laws.FnExactOddEvenLadder': WHATEVER THE INPUT: true; the input reads as it did. -/
def fnExactOddEvenLadderSpec : ChangeSpec := { name := "fnExactOddEvenLadder", fn := fun _ => fun
  | [d1, d2] => { results := [.lit (.bool true)], args := [d1, d2] }
  | _ => none }
def fnExactOddEvenLadderRow : OpenClaim := { program := "ytmljdibhdnckpaa", sum := "614a237d7fdb1f56319730be4fb7a687dee4b47d42761eab983b011626cf12b8", func := "loop.example/g01209/laws.FnExactOddEvenLadder", spec := "fnExactOddEvenLadder", unfollowed := true, recurses := true, apart := false }
def FnExactOddEvenLadderSaid : Prop := fnExactOddEvenLadderRow.holds Try.pinned (OpenSpec.ofChange fnExactOddEvenLadderSpec)

/-- ITS FALSE NEIGHBOUR: 'it returns false'. Refute it at one input. -/
def fnExactOddEvenLadderWrong : ChangeSpec := { name := "fnExactOddEvenLadder", fn := fun _ => fun
  | [d1, d2] => { results := [.lit (.bool false)], args := [d1, d2] }
  | _ => none }
def FnExactOddEvenLadderWrongFalsely : Prop := fnExactOddEvenLadderRow.holds Try.pinned (OpenSpec.ofChange fnExactOddEvenLadderWrong)

/-- 'laws.FnExactExchangesOf': WHATEVER THE INPUT: true; the input reads as it did. -/
def fnExactExchangesOfSpec : ChangeSpec := { name := "fnExactExchangesOf", fn := fun _ => fun
  | [d1, d2] => { results := [.lit (.bool true)], args := [d1, d2] }
  | _ => none }
def fnExactExchangesOfRow : OpenClaim := { program := "ytmljdibhdnckpaa", sum := "614a237d7fdb1f56319730be4fb7a687dee4b47d42761eab983b011626cf12b8", func := "loop.example/g01209/laws.FnExactExchangesOf", spec := "fnExactExchangesOf", unfollowed := true, recurses := true, apart := false }
def FnExactExchangesOfSaid : Prop := fnExactExchangesOfRow.holds Try.pinned (OpenSpec.ofChange fnExactExchangesOfSpec)

/-- ITS FALSE NEIGHBOUR: 'it returns false'. Refute it at one input. -/
def fnExactExchangesOfWrong : ChangeSpec := { name := "fnExactExchangesOf", fn := fun _ => fun
  | [d1, d2] => { results := [.lit (.bool false)], args := [d1, d2] }
  | _ => none }
def FnExactExchangesOfWrongFalsely : Prop := fnExactExchangesOfRow.holds Try.pinned (OpenSpec.ofChange fnExactExchangesOfWrong)

/-- 'laws.FnExactSortedBy': WHATEVER THE INPUT: true; the input reads as it did. -/
def fnExactSortedBySpec : ChangeSpec := { name := "fnExactSortedBy", fn := fun _ => fun
  | [d1, d2] => { results := [.lit (.bool true)], args := [d1, d2] }
  | _ => none }
def fnExactSortedByRow : OpenClaim := { program := "ytmljdibhdnckpaa", sum := "614a237d7fdb1f56319730be4fb7a687dee4b47d42761eab983b011626cf12b8", func := "loop.example/g01209/laws.FnExactSortedBy", spec := "fnExactSortedBy", unfollowed := true, recurses := true, apart := false }
def FnExactSortedBySaid : Prop := fnExactSortedByRow.holds Try.pinned (OpenSpec.ofChange fnExactSortedBySpec)

/-- ITS FALSE NEIGHBOUR: 'it returns false'. Refute it at one input. -/
def fnExactSortedByWrong : ChangeSpec := { name := "fnExactSortedBy", fn := fun _ => fun
  | [d1, d2] => { results := [.lit (.bool false)], args := [d1, d2] }
  | _ => none }
def FnExactSortedByWrongFalsely : Prop := fnExactSortedByRow.holds Try.pinned (OpenSpec.ofChange fnExactSortedByWrong)

/-- 'laws.FnExactCountBitsSorted': WHATEVER THE INPUT: true; the input reads as it did. -/
def fnExactCountBitsSortedSpec : ChangeSpec := { name := "fnExactCountBitsSorted", fn := fun _ => fun
  | [d] => { results := [.lit (.bool true)], args := [d] }
  | _ => none }
def fnExactCountBitsSortedRow : OpenClaim := { program := "ytmljdibhdnckpaa", sum := "614a237d7fdb1f56319730be4fb7a687dee4b47d42761eab983b011626cf12b8", func := "loop.example/g01209/laws.FnExactCountBitsSorted", spec := "fnExactCountBitsSorted", unfollowed := true, recurses := true, apart := false }
def FnExactCountBitsSortedSaid : Prop := fnExactCountBitsSortedRow.holds Try.pinned (OpenSpec.ofChange fnExactCountBitsSortedSpec)

/-- ITS FALSE NEIGHBOUR: 'it returns false'. Refute it at one input. -/
def fnExactCountBitsSortedWrong : ChangeSpec := { name := "fnExactCountBitsSorted", fn := fun _ => fun
  | [d] => { results := [.lit (.bool false)], args := [d] }
  | _ => none }
def FnExactCountBitsSortedWrongFalsely : Prop := fnExactCountBitsSortedRow.holds Try.pinned (OpenSpec.ofChange fnExactCountBitsSortedWrong)

/-- 'laws.FnExactIsSorting': WHATEVER THE INPUT: true; the input reads as it did. -/
def fnExactIsSortingSpec : ChangeSpec := { name := "fnExactIsSorting", fn := fun _ => fun
  | [d] => { results := [.lit (.bool true)], args := [d] }
  | _ => none }
def fnExactIsSortingRow : OpenClaim := { program := "ytmljdibhdnckpaa", sum := "614a237d7fdb1f56319730be4fb7a687dee4b47d42761eab983b011626cf12b8", func := "loop.example/g01209/laws.FnExactIsSorting", spec := "fnExactIsSorting", unfollowed := true, recurses := true, apart := false }
def FnExactIsSortingSaid : Prop := fnExactIsSortingRow.holds Try.pinned (OpenSpec.ofChange fnExactIsSortingSpec)

/-- ITS FALSE NEIGHBOUR: 'it returns false'. Refute it at one input. -/
def fnExactIsSortingWrong : ChangeSpec := { name := "fnExactIsSorting", fn := fun _ => fun
  | [d] => { results := [.lit (.bool false)], args := [d] }
  | _ => none }
def FnExactIsSortingWrongFalsely : Prop := fnExactIsSortingRow.holds Try.pinned (OpenSpec.ofChange fnExactIsSortingWrong)

/-- 'laws.FnExactIdleRungs': WHATEVER THE INPUT: true; the input reads as it did. -/
def fnExactIdleRungsSpec : ChangeSpec := { name := "fnExactIdleRungs", fn := fun _ => fun
  | [d] => { results := [.lit (.bool true)], args := [d] }
  | _ => none }
def fnExactIdleRungsRow : OpenClaim := { program := "ytmljdibhdnckpaa", sum := "614a237d7fdb1f56319730be4fb7a687dee4b47d42761eab983b011626cf12b8", func := "loop.example/g01209/laws.FnExactIdleRungs", spec := "fnExactIdleRungs", unfollowed := true, recurses := true, apart := false }
def FnExactIdleRungsSaid : Prop := fnExactIdleRungsRow.holds Try.pinned (OpenSpec.ofChange fnExactIdleRungsSpec)

/-- ITS FALSE NEIGHBOUR: 'it returns false'. Refute it at one input. -/
def fnExactIdleRungsWrong : ChangeSpec := { name := "fnExactIdleRungs", fn := fun _ => fun
  | [d] => { results := [.lit (.bool false)], args := [d] }
  | _ => none }
def FnExactIdleRungsWrongFalsely : Prop := fnExactIdleRungsRow.holds Try.pinned (OpenSpec.ofChange fnExactIdleRungsWrong)

/-- 'laws.FnExactLeastBeginning': WHATEVER THE INPUT: true; the input reads as it did. -/
def fnExactLeastBeginningSpec : ChangeSpec := { name := "fnExactLeastBeginning", fn := fun _ => fun
  | [d] => { results := [.lit (.bool true)], args := [d] }
  | _ => none }
def fnExactLeastBeginningRow : OpenClaim := { program := "ytmljdibhdnckpaa", sum := "614a237d7fdb1f56319730be4fb7a687dee4b47d42761eab983b011626cf12b8", func := "loop.example/g01209/laws.FnExactLeastBeginning", spec := "fnExactLeastBeginning", unfollowed := true, recurses := true, apart := false }
def FnExactLeastBeginningSaid : Prop := fnExactLeastBeginningRow.holds Try.pinned (OpenSpec.ofChange fnExactLeastBeginningSpec)

/-- ITS FALSE NEIGHBOUR: 'it returns false'. Refute it at one input. -/
def fnExactLeastBeginningWrong : ChangeSpec := { name := "fnExactLeastBeginning", fn := fun _ => fun
  | [d] => { results := [.lit (.bool false)], args := [d] }
  | _ => none }
def FnExactLeastBeginningWrongFalsely : Prop := fnExactLeastBeginningRow.holds Try.pinned (OpenSpec.ofChange fnExactLeastBeginningWrong)

/-- 'laws.FnExactFirstBitsUnsorted': WHATEVER THE INPUT: true; the input reads as it did. -/
def fnExactFirstBitsUnsortedSpec : ChangeSpec := { name := "fnExactFirstBitsUnsorted", fn := fun _ => fun
  | [d] => { results := [.lit (.bool true)], args := [d] }
  | _ => none }
def fnExactFirstBitsUnsortedRow : OpenClaim := { program := "ytmljdibhdnckpaa", sum := "614a237d7fdb1f56319730be4fb7a687dee4b47d42761eab983b011626cf12b8", func := "loop.example/g01209/laws.FnExactFirstBitsUnsorted", spec := "fnExactFirstBitsUnsorted", unfollowed := true, recurses := true, apart := false }
def FnExactFirstBitsUnsortedSaid : Prop := fnExactFirstBitsUnsortedRow.holds Try.pinned (OpenSpec.ofChange fnExactFirstBitsUnsortedSpec)

/-- ITS FALSE NEIGHBOUR: 'it returns false'. Refute it at one input. -/
def fnExactFirstBitsUnsortedWrong : ChangeSpec := { name := "fnExactFirstBitsUnsorted", fn := fun _ => fun
  | [d] => { results := [.lit (.bool false)], args := [d] }
  | _ => none }
def FnExactFirstBitsUnsortedWrongFalsely : Prop := fnExactFirstBitsUnsortedRow.holds Try.pinned (OpenSpec.ofChange fnExactFirstBitsUnsortedWrong)

/-- 'laws.FnExactDropIdle': WHATEVER THE INPUT: true; the input reads as it did. -/
def fnExactDropIdleSpec : ChangeSpec := { name := "fnExactDropIdle", fn := fun _ => fun
  | [d] => { results := [.lit (.bool true)], args := [d] }
  | _ => none }
def fnExactDropIdleRow : OpenClaim := { program := "ytmljdibhdnckpaa", sum := "614a237d7fdb1f56319730be4fb7a687dee4b47d42761eab983b011626cf12b8", func := "loop.example/g01209/laws.FnExactDropIdle", spec := "fnExactDropIdle", unfollowed := true, recurses := true, apart := false }
def FnExactDropIdleSaid : Prop := fnExactDropIdleRow.holds Try.pinned (OpenSpec.ofChange fnExactDropIdleSpec)

/-- ITS FALSE NEIGHBOUR: 'it returns false'. Refute it at one input. -/
def fnExactDropIdleWrong : ChangeSpec := { name := "fnExactDropIdle", fn := fun _ => fun
  | [d] => { results := [.lit (.bool false)], args := [d] }
  | _ => none }
def FnExactDropIdleWrongFalsely : Prop := fnExactDropIdleRow.holds Try.pinned (OpenSpec.ofChange fnExactDropIdleWrong)

/-- 'laws.FnExactWorstOrder': WHATEVER THE INPUT: true; the input reads as it did. -/
def fnExactWorstOrderSpec : ChangeSpec := { name := "fnExactWorstOrder", fn := fun _ => fun
  | [d] => { results := [.lit (.bool true)], args := [d] }
  | _ => none }
def fnExactWorstOrderRow : OpenClaim := { program := "ytmljdibhdnckpaa", sum := "614a237d7fdb1f56319730be4fb7a687dee4b47d42761eab983b011626cf12b8", func := "loop.example/g01209/laws.FnExactWorstOrder", spec := "fnExactWorstOrder", unfollowed := true, recurses := true, apart := false }
def FnExactWorstOrderSaid : Prop := fnExactWorstOrderRow.holds Try.pinned (OpenSpec.ofChange fnExactWorstOrderSpec)

/-- ITS FALSE NEIGHBOUR: 'it returns false'. Refute it at one input. -/
def fnExactWorstOrderWrong : ChangeSpec := { name := "fnExactWorstOrder", fn := fun _ => fun
  | [d] => { results := [.lit (.bool false)], args := [d] }
  | _ => none }
def FnExactWorstOrderWrongFalsely : Prop := fnExactWorstOrderRow.holds Try.pinned (OpenSpec.ofChange fnExactWorstOrderWrong)

/-- 'laws.FnExactCountSorted': WHATEVER THE INPUT: true; the input reads as it did. -/
def fnExactCountSortedSpec : ChangeSpec := { name := "fnExactCountSorted", fn := fun _ => fun
  | [d] => { results := [.lit (.bool true)], args := [d] }
  | _ => none }
def fnExactCountSortedRow : OpenClaim := { program := "ytmljdibhdnckpaa", sum := "614a237d7fdb1f56319730be4fb7a687dee4b47d42761eab983b011626cf12b8", func := "loop.example/g01209/laws.FnExactCountSorted", spec := "fnExactCountSorted", unfollowed := true, recurses := true, apart := false }
def FnExactCountSortedSaid : Prop := fnExactCountSortedRow.holds Try.pinned (OpenSpec.ofChange fnExactCountSortedSpec)

/-- ITS FALSE NEIGHBOUR: 'it returns false'. Refute it at one input. -/
def fnExactCountSortedWrong : ChangeSpec := { name := "fnExactCountSorted", fn := fun _ => fun
  | [d] => { results := [.lit (.bool false)], args := [d] }
  | _ => none }
def FnExactCountSortedWrongFalsely : Prop := fnExactCountSortedRow.holds Try.pinned (OpenSpec.ofChange fnExactCountSortedWrong)

/-- 'laws.FnExactFirstUnsorted': WHATEVER THE INPUT: true; the input reads as it did. -/
def fnExactFirstUnsortedSpec : ChangeSpec := { name := "fnExactFirstUnsorted", fn := fun _ => fun
  | [d] => { results := [.lit (.bool true)], args := [d] }
  | _ => none }
def fnExactFirstUnsortedRow : OpenClaim := { program := "ytmljdibhdnckpaa", sum := "614a237d7fdb1f56319730be4fb7a687dee4b47d42761eab983b011626cf12b8", func := "loop.example/g01209/laws.FnExactFirstUnsorted", spec := "fnExactFirstUnsorted", unfollowed := true, recurses := true, apart := false }
def FnExactFirstUnsortedSaid : Prop := fnExactFirstUnsortedRow.holds Try.pinned (OpenSpec.ofChange fnExactFirstUnsortedSpec)

/-- ITS FALSE NEIGHBOUR: 'it returns false'. Refute it at one input. -/
def fnExactFirstUnsortedWrong : ChangeSpec := { name := "fnExactFirstUnsorted", fn := fun _ => fun
  | [d] => { results := [.lit (.bool false)], args := [d] }
  | _ => none }
def FnExactFirstUnsortedWrongFalsely : Prop := fnExactFirstUnsortedRow.holds Try.pinned (OpenSpec.ofChange fnExactFirstUnsortedWrong)

/-- 'laws.FnExactSortsFirst': WHATEVER THE INPUT: true; the input reads as it did. -/
def fnExactSortsFirstSpec : ChangeSpec := { name := "fnExactSortsFirst", fn := fun _ => fun
  | [d1, d2] => { results := [.lit (.bool true)], args := [d1, d2] }
  | _ => none }
def fnExactSortsFirstRow : OpenClaim := { program := "ytmljdibhdnckpaa", sum := "614a237d7fdb1f56319730be4fb7a687dee4b47d42761eab983b011626cf12b8", func := "loop.example/g01209/laws.FnExactSortsFirst", spec := "fnExactSortsFirst", unfollowed := true, recurses := true, apart := false }
def FnExactSortsFirstSaid : Prop := fnExactSortsFirstRow.holds Try.pinned (OpenSpec.ofChange fnExactSortsFirstSpec)

/-- ITS FALSE NEIGHBOUR: 'it returns false'. Refute it at one input. -/
def fnExactSortsFirstWrong : ChangeSpec := { name := "fnExactSortsFirst", fn := fun _ => fun
  | [d1, d2] => { results := [.lit (.bool false)], args := [d1, d2] }
  | _ => none }
def FnExactSortsFirstWrongFalsely : Prop := fnExactSortsFirstRow.holds Try.pinned (OpenSpec.ofChange fnExactSortsFirstWrong)

/- THE SECOND FORM. 'bulk': how many values and letters a reading holds, each counted each time it is reached (what is shared counts as often as it is met; a slice's spare places count too). A statement '..UptoSaid' is the law's where the arguments, and the package variables that the reading takes, are together of bulk at most 1048576: NARROWER than '..Said'. Prove '..Said' where nothing that the law and all that it calls make is longer than what came in: it says more and counts as full. Else prove '..UptoSaid'. A law counts once. -/
mutual
def uptoBulk {H : Type} : DataW H → Nat
  | .lit (.string bytes) => bytes.length + 1
  | .lit _ => 1
  | .nil => 1
  | .ptr d => uptoBulk d + 1
  | .slice elems spare => uptoBulkAll elems + uptoBulkAll spare + 1
  | .agg parts => uptoBulkAll parts + 1
  | .iface _ d => uptoBulk d + 1
  | .map entries => uptoBulkEntries entries + 1
  | .held _ => 1
def uptoBulkAll {H : Type} : List (DataW H) → Nat
  | [] => 0
  | d :: r => uptoBulk d + uptoBulkAll r
def uptoBulkEntries {H : Type} : List (Lit × DataW H) → Nat
  | [] => 0
  | x :: r => uptoBulkEntry x + uptoBulkEntries r
def uptoBulkEntry {H : Type} : Lit × DataW H → Nat
  | (.string bytes, d) => bytes.length + uptoBulk d + 1
  | (_, d) => uptoBulk d + 1
 end
def uptoSmall : (H : Type) → List (DataW H) → Bool := fun _ ds => decide (uptoBulkAll ds ≤ 1048576)
def OpenSpec.upto (s : _root_.Go.ChangeSpec) : _root_.Go.OpenSpec := { _root_.Go.OpenSpec.ofChange s with cond := some uptoSmall }

/-- 'laws.FnExactLeastSorting', WHERE WHAT IT READS IS OF BULK AT MOST 1048576: true; the input reads as it did. -/
def fnExactLeastSortingUptoRow : OpenClaim := { program := "ytmljdibhdnckpaa", sum := "614a237d7fdb1f56319730be4fb7a687dee4b47d42761eab983b011626cf12b8", func := "loop.example/g01209/laws.FnExactLeastSorting", spec := "fnExactLeastSorting", apart := false, narrowed := true }
def FnExactLeastSortingUptoSaid : Prop := fnExactLeastSortingUptoRow.holds Try.pinned (OpenSpec.upto fnExactLeastSortingSpec)

/-- 'laws.FnExactBubbleLadder', WHERE WHAT IT READS IS OF BULK AT MOST 1048576: true; the input reads as it did. -/
def fnExactBubbleLadderUptoRow : OpenClaim := { program := "ytmljdibhdnckpaa", sum := "614a237d7fdb1f56319730be4fb7a687dee4b47d42761eab983b011626cf12b8", func := "loop.example/g01209/laws.FnExactBubbleLadder", spec := "fnExactBubbleLadder", apart := false, narrowed := true }
def FnExactBubbleLadderUptoSaid : Prop := fnExactBubbleLadderUptoRow.holds Try.pinned (OpenSpec.upto fnExactBubbleLadderSpec)

/-- 'laws.FnExactPassesOf', WHERE WHAT IT READS IS OF BULK AT MOST 1048576: true; the input reads as it did. -/
def fnExactPassesOfUptoRow : OpenClaim := { program := "ytmljdibhdnckpaa", sum := "614a237d7fdb1f56319730be4fb7a687dee4b47d42761eab983b011626cf12b8", func := "loop.example/g01209/laws.FnExactPassesOf", spec := "fnExactPassesOf", unfollowed := true, recurses := true, apart := false, narrowed := true }
def FnExactPassesOfUptoSaid : Prop := fnExactPassesOfUptoRow.holds Try.pinned (OpenSpec.upto fnExactPassesOfSpec)

/-- 'laws.FnExactOddEvenLadder', WHERE WHAT IT READS IS OF BULK AT MOST 1048576: true; the input reads as it did. -/
def fnExactOddEvenLadderUptoRow : OpenClaim := { program := "ytmljdibhdnckpaa", sum := "614a237d7fdb1f56319730be4fb7a687dee4b47d42761eab983b011626cf12b8", func := "loop.example/g01209/laws.FnExactOddEvenLadder", spec := "fnExactOddEvenLadder", unfollowed := true, recurses := true, apart := false, narrowed := true }
def FnExactOddEvenLadderUptoSaid : Prop := fnExactOddEvenLadderUptoRow.holds Try.pinned (OpenSpec.upto fnExactOddEvenLadderSpec)

/-- 'laws.FnExactExchangesOf', WHERE WHAT IT READS IS OF BULK AT MOST 1048576: true; the input reads as it did. -/
def fnExactExchangesOfUptoRow : OpenClaim := { program := "ytmljdibhdnckpaa", sum := "614a237d7fdb1f56319730be4fb7a687dee4b47d42761eab983b011626cf12b8", func := "loop.example/g01209/laws.FnExactExchangesOf", spec := "fnExactExchangesOf", unfollowed := true, recurses := true, apart := false, narrowed := true }
def FnExactExchangesOfUptoSaid : Prop := fnExactExchangesOfUptoRow.holds Try.pinned (OpenSpec.upto fnExactExchangesOfSpec)

/-- 'laws.FnExactSortedBy', WHERE WHAT IT READS IS OF BULK AT MOST 1048576: true; the input reads as it did. -/
def fnExactSortedByUptoRow : OpenClaim := { program := "ytmljdibhdnckpaa", sum := "614a237d7fdb1f56319730be4fb7a687dee4b47d42761eab983b011626cf12b8", func := "loop.example/g01209/laws.FnExactSortedBy", spec := "fnExactSortedBy", unfollowed := true, recurses := true, apart := false, narrowed := true }
def FnExactSortedByUptoSaid : Prop := fnExactSortedByUptoRow.holds Try.pinned (OpenSpec.upto fnExactSortedBySpec)

/-- 'laws.FnExactCountBitsSorted', WHERE WHAT IT READS IS OF BULK AT MOST 1048576: true; the input reads as it did. -/
def fnExactCountBitsSortedUptoRow : OpenClaim := { program := "ytmljdibhdnckpaa", sum := "614a237d7fdb1f56319730be4fb7a687dee4b47d42761eab983b011626cf12b8", func := "loop.example/g01209/laws.FnExactCountBitsSorted", spec := "fnExactCountBitsSorted", unfollowed := true, recurses := true, apart := false, narrowed := true }
def FnExactCountBitsSortedUptoSaid : Prop := fnExactCountBitsSortedUptoRow.holds Try.pinned (OpenSpec.upto fnExactCountBitsSortedSpec)

/-- 'laws.FnExactIsSorting', WHERE WHAT IT READS IS OF BULK AT MOST 1048576: true; the input reads as it did. -/
def fnExactIsSortingUptoRow : OpenClaim := { program := "ytmljdibhdnckpaa", sum := "614a237d7fdb1f56319730be4fb7a687dee4b47d42761eab983b011626cf12b8", func := "loop.example/g01209/laws.FnExactIsSorting", spec := "fnExactIsSorting", unfollowed := true, recurses := true, apart := false, narrowed := true }
def FnExactIsSortingUptoSaid : Prop := fnExactIsSortingUptoRow.holds Try.pinned (OpenSpec.upto fnExactIsSortingSpec)

/-- 'laws.FnExactIdleRungs', WHERE WHAT IT READS IS OF BULK AT MOST 1048576: true; the input reads as it did. -/
def fnExactIdleRungsUptoRow : OpenClaim := { program := "ytmljdibhdnckpaa", sum := "614a237d7fdb1f56319730be4fb7a687dee4b47d42761eab983b011626cf12b8", func := "loop.example/g01209/laws.FnExactIdleRungs", spec := "fnExactIdleRungs", unfollowed := true, recurses := true, apart := false, narrowed := true }
def FnExactIdleRungsUptoSaid : Prop := fnExactIdleRungsUptoRow.holds Try.pinned (OpenSpec.upto fnExactIdleRungsSpec)

/-- 'laws.FnExactLeastBeginning', WHERE WHAT IT READS IS OF BULK AT MOST 1048576: true; the input reads as it did. -/
def fnExactLeastBeginningUptoRow : OpenClaim := { program := "ytmljdibhdnckpaa", sum := "614a237d7fdb1f56319730be4fb7a687dee4b47d42761eab983b011626cf12b8", func := "loop.example/g01209/laws.FnExactLeastBeginning", spec := "fnExactLeastBeginning", unfollowed := true, recurses := true, apart := false, narrowed := true }
def FnExactLeastBeginningUptoSaid : Prop := fnExactLeastBeginningUptoRow.holds Try.pinned (OpenSpec.upto fnExactLeastBeginningSpec)

/-- 'laws.FnExactFirstBitsUnsorted', WHERE WHAT IT READS IS OF BULK AT MOST 1048576: true; the input reads as it did. -/
def fnExactFirstBitsUnsortedUptoRow : OpenClaim := { program := "ytmljdibhdnckpaa", sum := "614a237d7fdb1f56319730be4fb7a687dee4b47d42761eab983b011626cf12b8", func := "loop.example/g01209/laws.FnExactFirstBitsUnsorted", spec := "fnExactFirstBitsUnsorted", unfollowed := true, recurses := true, apart := false, narrowed := true }
def FnExactFirstBitsUnsortedUptoSaid : Prop := fnExactFirstBitsUnsortedUptoRow.holds Try.pinned (OpenSpec.upto fnExactFirstBitsUnsortedSpec)

/-- 'laws.FnExactDropIdle', WHERE WHAT IT READS IS OF BULK AT MOST 1048576: true; the input reads as it did. -/
def fnExactDropIdleUptoRow : OpenClaim := { program := "ytmljdibhdnckpaa", sum := "614a237d7fdb1f56319730be4fb7a687dee4b47d42761eab983b011626cf12b8", func := "loop.example/g01209/laws.FnExactDropIdle", spec := "fnExactDropIdle", unfollowed := true, recurses := true, apart := false, narrowed := true }
def FnExactDropIdleUptoSaid : Prop := fnExactDropIdleUptoRow.holds Try.pinned (OpenSpec.upto fnExactDropIdleSpec)

/-- 'laws.FnExactWorstOrder', WHERE WHAT IT READS IS OF BULK AT MOST 1048576: true; the input reads as it did. -/
def fnExactWorstOrderUptoRow : OpenClaim := { program := "ytmljdibhdnckpaa", sum := "614a237d7fdb1f56319730be4fb7a687dee4b47d42761eab983b011626cf12b8", func := "loop.example/g01209/laws.FnExactWorstOrder", spec := "fnExactWorstOrder", unfollowed := true, recurses := true, apart := false, narrowed := true }
def FnExactWorstOrderUptoSaid : Prop := fnExactWorstOrderUptoRow.holds Try.pinned (OpenSpec.upto fnExactWorstOrderSpec)

/-- 'laws.FnExactCountSorted', WHERE WHAT IT READS IS OF BULK AT MOST 1048576: true; the input reads as it did. -/
def fnExactCountSortedUptoRow : OpenClaim := { program := "ytmljdibhdnckpaa", sum := "614a237d7fdb1f56319730be4fb7a687dee4b47d42761eab983b011626cf12b8", func := "loop.example/g01209/laws.FnExactCountSorted", spec := "fnExactCountSorted", unfollowed := true, recurses := true, apart := false, narrowed := true }
def FnExactCountSortedUptoSaid : Prop := fnExactCountSortedUptoRow.holds Try.pinned (OpenSpec.upto fnExactCountSortedSpec)

/-- 'laws.FnExactFirstUnsorted', WHERE WHAT IT READS IS OF BULK AT MOST 1048576: true; the input reads as it did. -/
def fnExactFirstUnsortedUptoRow : OpenClaim := { program := "ytmljdibhdnckpaa", sum := "614a237d7fdb1f56319730be4fb7a687dee4b47d42761eab983b011626cf12b8", func := "loop.example/g01209/laws.FnExactFirstUnsorted", spec := "fnExactFirstUnsorted", unfollowed := true, recurses := true, apart := false, narrowed := true }
def FnExactFirstUnsortedUptoSaid : Prop := fnExactFirstUnsortedUptoRow.holds Try.pinned (OpenSpec.upto fnExactFirstUnsortedSpec)

/-- 'laws.FnExactSortsFirst', WHERE WHAT IT READS IS OF BULK AT MOST 1048576: true; the input reads as it did. -/
def fnExactSortsFirstUptoRow : OpenClaim := { program := "ytmljdibhdnckpaa", sum := "614a237d7fdb1f56319730be4fb7a687dee4b47d42761eab983b011626cf12b8", func := "loop.example/g01209/laws.FnExactSortsFirst", spec := "fnExactSortsFirst", unfollowed := true, recurses := true, apart := false, narrowed := true }
def FnExactSortsFirstUptoSaid : Prop := fnExactSortsFirstUptoRow.holds Try.pinned (OpenSpec.upto fnExactSortsFirstSpec)

end Rows
end Go.Proofs.Ytmljdibhdnckpaa
