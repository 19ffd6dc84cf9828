/-
  No cell of these rows narrows 'for every input' (looked for: loops, veiled, ifaces, maps, wideKeys, modest, calm, conditions, laid).
  DERIVED. THE GIVEN ROWS OF THIS SEAT. 6 by the template 'for every input the law returns true; each argument reads behind the call as it read before'; 0 by the template 'total and deterministic' (their statements: YtgjamcfnpofbhaaTotals.lean).
  GIVEN WITH THE SEED: the statements are not yours to turn. If you find one false, say at which input.
  Laid BY PROGRAM, IN A SANDBOX (cutbox-rows.mjs): the forced cells as the released guide's own fill.sh prints them over the translation a4834a9b30653457… (all of the seat's roots in one cut). By AI agents, Wed Nov 11 2026. No macro, syntax, notation, axiom, sorry.
-/
import Derived.Test.YtgjamcfnpofbhaaChecked
import GoSem.Claim
import GoSem.ClaimJoined
import GoSem.ClaimMapViews
import Derived.JoinedTies
import Derived.KernelRfl
namespace Go.Proofs.Ytgjamcfnpofbhaa
/- THE CELL 'sum', in the pinned program and in every row, IS THE sha256 OF THE DUMP (.gsa) THAT YtgjamcfnpofbhaaProg.lean LOADS. Nothing in Lean hashes anything: it is a label: what it is worth is what the hold of that sum in a sandbox is worth. -/
noncomputable def Try.pinned : Pinned := { name := "ytgjamcfnpofbhaa", sum := "a4834a9b306534574da8f3fa2b11e2139ad85c0512bda39bf2c0630dc34e0a34", checked := Try.checked }
namespace Rows
def none {H : Type} : Left H := { results := [], args := [] }

/-- 'laws.FnExactBelowPole': WHATEVER THE INPUT: true; the input reads as it did. -/
def fnExactBelowPoleSpec : ChangeSpec := { name := "fnExactBelowPole", fn := fun _ => fun
  | [d1, d2] => { results := [.lit (.bool true)], args := [d1, d2] }
  | _ => none }
def fnExactBelowPoleRow : OpenClaim := { program := "ytgjamcfnpofbhaa", sum := "a4834a9b306534574da8f3fa2b11e2139ad85c0512bda39bf2c0630dc34e0a34", func := "loop.example/g01209/laws.FnExactBelowPole", spec := "fnExactBelowPole", unfollowed := true, recurses := true, apart := false }
def FnExactBelowPoleSaid : Prop := fnExactBelowPoleRow.holds Try.pinned (OpenSpec.ofChange fnExactBelowPoleSpec)

/-- ITS FALSE NEIGHBOUR: 'it returns false'. Refute it at one input. -/
def fnExactBelowPoleWrong : ChangeSpec := { name := "fnExactBelowPole", fn := fun _ => fun
  | [d1, d2] => { results := [.lit (.bool false)], args := [d1, d2] }
  | _ => none }
def FnExactBelowPoleWrongFalsely : Prop := fnExactBelowPoleRow.holds Try.pinned (OpenSpec.ofChange fnExactBelowPoleWrong)

/-- 'laws.FnExactThenTurned': WHATEVER THE INPUT: true; the input reads as it did. -/
def fnExactThenTurnedSpec : ChangeSpec := { name := "fnExactThenTurned", fn := fun _ => fun
  | [d1, d2] => { results := [.lit (.bool true)], args := [d1, d2] }
  | _ => none }
def fnExactThenTurnedRow : OpenClaim := { program := "ytgjamcfnpofbhaa", sum := "a4834a9b306534574da8f3fa2b11e2139ad85c0512bda39bf2c0630dc34e0a34", func := "loop.example/g01209/laws.FnExactThenTurned", spec := "fnExactThenTurned", apart := false }
def FnExactThenTurnedSaid : Prop := fnExactThenTurnedRow.holds Try.pinned (OpenSpec.ofChange fnExactThenTurnedSpec)

/-- ITS FALSE NEIGHBOUR: 'it returns false'. Refute it at one input. -/
def fnExactThenTurnedWrong : ChangeSpec := { name := "fnExactThenTurned", fn := fun _ => fun
  | [d1, d2] => { results := [.lit (.bool false)], args := [d1, d2] }
  | _ => none }
def FnExactThenTurnedWrongFalsely : Prop := fnExactThenTurnedRow.holds Try.pinned (OpenSpec.ofChange fnExactThenTurnedWrong)

/-- 'laws.FnExactPolePower': WHATEVER THE INPUT: true; the input reads as it did. -/
def fnExactPolePowerSpec : ChangeSpec := { name := "fnExactPolePower", fn := fun _ => fun
  | [d] => { results := [.lit (.bool true)], args := [d] }
  | _ => none }
def fnExactPolePowerRow : OpenClaim := { program := "ytgjamcfnpofbhaa", sum := "a4834a9b306534574da8f3fa2b11e2139ad85c0512bda39bf2c0630dc34e0a34", func := "loop.example/g01209/laws.FnExactPolePower", spec := "fnExactPolePower", unfollowed := true, recurses := true, apart := false }
def FnExactPolePowerSaid : Prop := fnExactPolePowerRow.holds Try.pinned (OpenSpec.ofChange fnExactPolePowerSpec)

/-- ITS FALSE NEIGHBOUR: 'it returns false'. Refute it at one input. -/
def fnExactPolePowerWrong : ChangeSpec := { name := "fnExactPolePower", fn := fun _ => fun
  | [d] => { results := [.lit (.bool false)], args := [d] }
  | _ => none }
def FnExactPolePowerWrongFalsely : Prop := fnExactPolePowerRow.holds Try.pinned (OpenSpec.ofChange fnExactPolePowerWrong)

/-- 'laws.FnExactIsLeastPole': WHATEVER THE INPUT: true; the input reads as it did. -/
def fnExactIsLeastPoleSpec : ChangeSpec := { name := "fnExactIsLeastPole", fn := fun _ => fun
  | [d] => { results := [.lit (.bool true)], args := [d] }
  | _ => none }
def fnExactIsLeastPoleRow : OpenClaim := { program := "ytgjamcfnpofbhaa", sum := "a4834a9b306534574da8f3fa2b11e2139ad85c0512bda39bf2c0630dc34e0a34", func := "loop.example/g01209/laws.FnExactIsLeastPole", spec := "fnExactIsLeastPole", unfollowed := true, recurses := true, apart := false }
def FnExactIsLeastPoleSaid : Prop := fnExactIsLeastPoleRow.holds Try.pinned (OpenSpec.ofChange fnExactIsLeastPoleSpec)

/-- ITS FALSE NEIGHBOUR: 'it returns false'. Refute it at one input. -/
def fnExactIsLeastPoleWrong : ChangeSpec := { name := "fnExactIsLeastPole", fn := fun _ => fun
  | [d] => { results := [.lit (.bool false)], args := [d] }
  | _ => none }
def FnExactIsLeastPoleWrongFalsely : Prop := fnExactIsLeastPoleRow.holds Try.pinned (OpenSpec.ofChange fnExactIsLeastPoleWrong)

/-- 'laws.FnExactPoleResult': WHATEVER THE INPUT: true; the input reads as it did. -/
def fnExactPoleResultSpec : ChangeSpec := { name := "fnExactPoleResult", fn := fun _ => fun
  | [d] => { results := [.lit (.bool true)], args := [d] }
  | _ => none }
def fnExactPoleResultRow : OpenClaim := { program := "ytgjamcfnpofbhaa", sum := "a4834a9b306534574da8f3fa2b11e2139ad85c0512bda39bf2c0630dc34e0a34", func := "loop.example/g01209/laws.FnExactPoleResult", spec := "fnExactPoleResult", unfollowed := true, recurses := true, apart := false }
def FnExactPoleResultSaid : Prop := fnExactPoleResultRow.holds Try.pinned (OpenSpec.ofChange fnExactPoleResultSpec)

/-- ITS FALSE NEIGHBOUR: 'it returns false'. Refute it at one input. -/
def fnExactPoleResultWrong : ChangeSpec := { name := "fnExactPoleResult", fn := fun _ => fun
  | [d] => { results := [.lit (.bool false)], args := [d] }
  | _ => none }
def FnExactPoleResultWrongFalsely : Prop := fnExactPoleResultRow.holds Try.pinned (OpenSpec.ofChange fnExactPoleResultWrong)

/-- 'laws.FnExactLeastPole': WHATEVER THE INPUT: true; the input reads as it did. -/
def fnExactLeastPoleSpec : ChangeSpec := { name := "fnExactLeastPole", fn := fun _ => fun
  | [d] => { results := [.lit (.bool true)], args := [d] }
  | _ => none }
def fnExactLeastPoleRow : OpenClaim := { program := "ytgjamcfnpofbhaa", sum := "a4834a9b306534574da8f3fa2b11e2139ad85c0512bda39bf2c0630dc34e0a34", func := "loop.example/g01209/laws.FnExactLeastPole", spec := "fnExactLeastPole", apart := false }
def FnExactLeastPoleSaid : Prop := fnExactLeastPoleRow.holds Try.pinned (OpenSpec.ofChange fnExactLeastPoleSpec)

/-- ITS FALSE NEIGHBOUR: 'it returns false'. Refute it at one input. -/
def fnExactLeastPoleWrong : ChangeSpec := { name := "fnExactLeastPole", fn := fun _ => fun
  | [d] => { results := [.lit (.bool false)], args := [d] }
  | _ => none }
def FnExactLeastPoleWrongFalsely : Prop := fnExactLeastPoleRow.holds Try.pinned (OpenSpec.ofChange fnExactLeastPoleWrong)

/- THE SECOND FORM. 'bulk': how many values and letters a reading holds, each counted each time it is reached (what is shared counts as often as it is met; a slice's spare places count too). A statement '..UptoSaid' is the law's where the arguments, and the package variables that the reading takes, are together of bulk at most 1048576: NARROWER than '..Said'. Prove '..Said' where nothing that the law and all that it calls make is longer than what came in: it says more and counts as full. Else prove '..UptoSaid'. A law counts once. -/
mutual
def uptoBulk {H : Type} : DataW H → Nat
  | .lit (.string bytes) => bytes.length + 1
  | .lit _ => 1
  | .nil => 1
  | .ptr d => uptoBulk d + 1
  | .slice elems spare => uptoBulkAll elems + uptoBulkAll spare + 1
  | .agg parts => uptoBulkAll parts + 1
  | .iface _ d => uptoBulk d + 1
  | .map entries => uptoBulkEntries entries + 1
  | .held _ => 1
def uptoBulkAll {H : Type} : List (DataW H) → Nat
  | [] => 0
  | d :: r => uptoBulk d + uptoBulkAll r
def uptoBulkEntries {H : Type} : List (Lit × DataW H) → Nat
  | [] => 0
  | x :: r => uptoBulkEntry x + uptoBulkEntries r
def uptoBulkEntry {H : Type} : Lit × DataW H → Nat
  | (.string bytes, d) => bytes.length + uptoBulk d + 1
  | (_, d) => uptoBulk d + 1
 end
def uptoSmall : (H : Type) → List (DataW H) → Bool := fun _ ds => decide (uptoBulkAll ds ≤ 1048576)
def OpenSpec.upto (s : _root_.Go.ChangeSpec) : _root_.Go.OpenSpec := { _root_.Go.OpenSpec.ofChange s with cond := some uptoSmall }

/-- 'laws.FnExactBelowPole', WHERE WHAT IT READS IS OF BULK AT MOST 1048576: true; the input reads as it did. -/
def fnExactBelowPoleUptoRow : OpenClaim := { program := "ytgjamcfnpofbhaa", sum := "a4834a9b306534574da8f3fa2b11e2139ad85c0512bda39bf2c0630dc34e0a34", func := "loop.example/g01209/laws.FnExactBelowPole", spec := "fnExactBelowPole", unfollowed := true, recurses := true, apart := false, narrowed := true }
def FnExactBelowPoleUptoSaid : Prop := fnExactBelowPoleUptoRow.holds Try.pinned (OpenSpec.upto fnExactBelowPoleSpec)

/-- 'laws.FnExactThenTurned', WHERE WHAT IT READS IS OF BULK AT MOST 1048576: true; the input reads as it did. -/
def fnExactThenTurnedUptoRow : OpenClaim := { program := "ytgjamcfnpofbhaa", sum := "a4834a9b306534574da8f3fa2b11e2139ad85c0512bda39bf2c0630dc34e0a34", func := "loop.example/g01209/laws.FnExactThenTurned", spec := "fnExactThenTurned", apart := false, narrowed := true }
def FnExactThenTurnedUptoSaid : Prop := fnExactThenTurnedUptoRow.holds Try.pinned (OpenSpec.upto fnExactThenTurnedSpec)

/-- 'laws.FnExactPolePower', WHERE WHAT IT READS IS OF BULK AT MOST 1048576: true; the input reads as it did. -/
def fnExactPolePowerUptoRow : OpenClaim := { program := "ytgjamcfnpofbhaa", sum := "a4834a9b306534574da8f3fa2b11e2139ad85c0512bda39bf2c0630dc34e0a34", func := "loop.example/g01209/laws.FnExactPolePower", spec := "fnExactPolePower", unfollowed := true, recurses := true, apart := false, narrowed := true }
def FnExactPolePowerUptoSaid : Prop := fnExactPolePowerUptoRow.holds Try.pinned (OpenSpec.upto fnExactPolePowerSpec)

/-- 'laws.FnExactIsLeastPole', WHERE WHAT IT READS IS OF BULK AT MOST 1048576: true; the input reads as it did. -/
def fnExactIsLeastPoleUptoRow : OpenClaim := { program := "ytgjamcfnpofbhaa", sum := "a4834a9b306534574da8f3fa2b11e2139ad85c0512bda39bf2c0630dc34e0a34", func := "loop.example/g01209/laws.FnExactIsLeastPole", spec := "fnExactIsLeastPole", unfollowed := true, recurses := true, apart := false, narrowed := true }
def FnExactIsLeastPoleUptoSaid : Prop := fnExactIsLeastPoleUptoRow.holds Try.pinned (OpenSpec.upto fnExactIsLeastPoleSpec)

/-- 'laws.FnExactPoleResult', WHERE WHAT IT READS IS OF BULK AT MOST 1048576: true; the input reads as it did. -/
def fnExactPoleResultUptoRow : OpenClaim := { program := "ytgjamcfnpofbhaa", sum := "a4834a9b306534574da8f3fa2b11e2139ad85c0512bda39bf2c0630dc34e0a34", func := "loop.example/g01209/laws.FnExactPoleResult", spec := "fnExactPoleResult", unfollowed := true, recurses := true, apart := false, narrowed := true }
def FnExactPoleResultUptoSaid : Prop := fnExactPoleResultUptoRow.holds Try.pinned (OpenSpec.upto fnExactPoleResultSpec)

/-- 'laws.FnExactLeastPole', WHERE WHAT IT READS IS OF BULK AT MOST 1048576: true; the input reads as it did. -/
def fnExactLeastPoleUptoRow : OpenClaim := { program := "ytgjamcfnpofbhaa", sum := "a4834a9b306534574da8f3fa2b11e2139ad85c0512bda39bf2c0630dc34e0a34", func := "loop.example/g01209/laws.FnExactLeastPole", spec := "fnExactLeastPole", apart := false, narrowed := true }
def FnExactLeastPoleUptoSaid : Prop := fnExactLeastPoleUptoRow.holds Try.pinned (OpenSpec.upto fnExactLeastPoleSpec)

end Rows
end Go.Proofs.Ytgjamcfnpofbhaa
