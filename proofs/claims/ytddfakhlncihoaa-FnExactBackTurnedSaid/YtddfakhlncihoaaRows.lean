/-
  No cell of these rows narrows 'for every input' (looked for: loops, veiled, ifaces, maps, wideKeys, modest, calm, conditions, laid).
  DERIVED. THE GIVEN ROWS OF THIS SEAT. 18 by the template 'for every input the law returns true; each argument reads behind the call as it read before'; 0 by the template 'total and deterministic' (their statements: YtddfakhlncihoaaTotals.lean).
  GIVEN WITH THE SEED: the statements are not yours to turn. If you find one false, say at which input.
  Laid BY PROGRAM, IN A SANDBOX (cutbox-rows.mjs): the forced cells as the released guide's own fill.sh prints them over the translation de7a7c2d36e64dc0… (all of the seat's roots in one cut). By AI agents, Wed Nov 11 2026. No macro, syntax, notation, axiom, sorry.
-/
import Derived.Test.YtddfakhlncihoaaChecked
import GoSem.Claim
import GoSem.ClaimJoined
import GoSem.ClaimMapViews
import Derived.JoinedTies
import Derived.KernelRfl
namespace Go.Proofs.Ytddfakhlncihoaa
/- THE CELL 'sum', in the pinned program and in every row, IS THE sha256 OF THE DUMP (.gsa) THAT YtddfakhlncihoaaProg.lean LOADS. Nothing in Lean hashes anything: it is a label: what it is worth is what the hold of that sum in a sandbox is worth. -/
noncomputable def Try.pinned : Pinned := { name := "ytddfakhlncihoaa", sum := "de7a7c2d36e64dc093a76f8a5bb41dba32a64fef0d59124840ffcd8108c07921", checked := Try.checked }
namespace Rows
def none {H : Type} : Left H := { results := [], args := [] }

/-- 'laws.FnExactIsPole': WHATEVER THE INPUT: true; the input reads as it did. -/
def fnExactIsPoleSpec : ChangeSpec := { name := "fnExactIsPole", fn := fun _ => fun
  | [d] => { results := [.lit (.bool true)], args := [d] }
  | _ => none }
def fnExactIsPoleRow : OpenClaim := { program := "ytddfakhlncihoaa", sum := "de7a7c2d36e64dc093a76f8a5bb41dba32a64fef0d59124840ffcd8108c07921", func := "loop.example/g01209/laws.FnExactIsPole", spec := "fnExactIsPole", unfollowed := true, recurses := true, apart := false }
def FnExactIsPoleSaid : Prop := fnExactIsPoleRow.holds Try.pinned (OpenSpec.ofChange fnExactIsPoleSpec)

/-- ITS FALSE NEIGHBOUR: 'it returns false'. Refute it at one input. -/
def fnExactIsPoleWrong : ChangeSpec := { name := "fnExactIsPole", fn := fun _ => fun
  | [d] => { results := [.lit (.bool false)], args := [d] }
  | _ => none }
def FnExactIsPoleWrongFalsely : Prop := fnExactIsPoleRow.holds Try.pinned (OpenSpec.ofChange fnExactIsPoleWrong)

/-- 'laws.FnExactSpinPole': WHATEVER THE INPUT: true; the input reads as it did. -/
def fnExactSpinPoleSpec : ChangeSpec := { name := "fnExactSpinPole", fn := fun _ => fun
  | [d1, d2] => { results := [.lit (.bool true)], args := [d1, d2] }
  | _ => none }
def fnExactSpinPoleRow : OpenClaim := { program := "ytddfakhlncihoaa", sum := "de7a7c2d36e64dc093a76f8a5bb41dba32a64fef0d59124840ffcd8108c07921", func := "loop.example/g01209/laws.FnExactSpinPole", spec := "fnExactSpinPole", unfollowed := true, recurses := true, apart := false }
def FnExactSpinPoleSaid : Prop := fnExactSpinPoleRow.holds Try.pinned (OpenSpec.ofChange fnExactSpinPoleSpec)

/-- ITS FALSE NEIGHBOUR: 'it returns false'. Refute it at one input. -/
def fnExactSpinPoleWrong : ChangeSpec := { name := "fnExactSpinPole", fn := fun _ => fun
  | [d1, d2] => { results := [.lit (.bool false)], args := [d1, d2] }
  | _ => none }
def FnExactSpinPoleWrongFalsely : Prop := fnExactSpinPoleRow.holds Try.pinned (OpenSpec.ofChange fnExactSpinPoleWrong)

/-- 'laws.FnExactIsTurned': WHATEVER THE INPUT: true; the input reads as it did. -/
def fnExactIsTurnedSpec : ChangeSpec := { name := "fnExactIsTurned", fn := fun _ => fun
  | [d] => { results := [.lit (.bool true)], args := [d] }
  | _ => none }
def fnExactIsTurnedRow : OpenClaim := { program := "ytddfakhlncihoaa", sum := "de7a7c2d36e64dc093a76f8a5bb41dba32a64fef0d59124840ffcd8108c07921", func := "loop.example/g01209/laws.FnExactIsTurned", spec := "fnExactIsTurned", apart := false }
def FnExactIsTurnedSaid : Prop := fnExactIsTurnedRow.holds Try.pinned (OpenSpec.ofChange fnExactIsTurnedSpec)

/-- ITS FALSE NEIGHBOUR: 'it returns false'. Refute it at one input. -/
def fnExactIsTurnedWrong : ChangeSpec := { name := "fnExactIsTurned", fn := fun _ => fun
  | [d] => { results := [.lit (.bool false)], args := [d] }
  | _ => none }
def FnExactIsTurnedWrongFalsely : Prop := fnExactIsTurnedRow.holds Try.pinned (OpenSpec.ofChange fnExactIsTurnedWrong)

/-- 'laws.FnExactTurnPole': WHATEVER THE INPUT: true; the input reads as it did. -/
def fnExactTurnPoleSpec : ChangeSpec := { name := "fnExactTurnPole", fn := fun _ => fun
  | [d] => { results := [.lit (.bool true)], args := [d] }
  | _ => none }
def fnExactTurnPoleRow : OpenClaim := { program := "ytddfakhlncihoaa", sum := "de7a7c2d36e64dc093a76f8a5bb41dba32a64fef0d59124840ffcd8108c07921", func := "loop.example/g01209/laws.FnExactTurnPole", spec := "fnExactTurnPole", unfollowed := true, recurses := true, apart := false }
def FnExactTurnPoleSaid : Prop := fnExactTurnPoleRow.holds Try.pinned (OpenSpec.ofChange fnExactTurnPoleSpec)

/-- ITS FALSE NEIGHBOUR: 'it returns false'. Refute it at one input. -/
def fnExactTurnPoleWrong : ChangeSpec := { name := "fnExactTurnPole", fn := fun _ => fun
  | [d] => { results := [.lit (.bool false)], args := [d] }
  | _ => none }
def FnExactTurnPoleWrongFalsely : Prop := fnExactTurnPoleRow.holds Try.pinned (OpenSpec.ofChange fnExactTurnPoleWrong)

/-- 'laws.FnExactPoleEnd': WHATEVER THE INPUT: true; the input reads as it did. -/
def fnExactPoleEndSpec : ChangeSpec := { name := "fnExactPoleEnd", fn := fun _ => fun
  | [d1, d2] => { results := [.lit (.bool true)], args := [d1, d2] }
  | _ => none }
def fnExactPoleEndRow : OpenClaim := { program := "ytddfakhlncihoaa", sum := "de7a7c2d36e64dc093a76f8a5bb41dba32a64fef0d59124840ffcd8108c07921", func := "loop.example/g01209/laws.FnExactPoleEnd", spec := "fnExactPoleEnd", unfollowed := true, recurses := true, apart := false }
def FnExactPoleEndSaid : Prop := fnExactPoleEndRow.holds Try.pinned (OpenSpec.ofChange fnExactPoleEndSpec)

/-- ITS FALSE NEIGHBOUR: 'it returns false'. Refute it at one input. -/
def fnExactPoleEndWrong : ChangeSpec := { name := "fnExactPoleEnd", fn := fun _ => fun
  | [d1, d2] => { results := [.lit (.bool false)], args := [d1, d2] }
  | _ => none }
def FnExactPoleEndWrongFalsely : Prop := fnExactPoleEndRow.holds Try.pinned (OpenSpec.ofChange fnExactPoleEndWrong)

/-- 'laws.FnExactPlaceOf': WHATEVER THE INPUT: true; the input reads as it did. -/
def fnExactPlaceOfSpec : ChangeSpec := { name := "fnExactPlaceOf", fn := fun _ => fun
  | [d1, d2] => { results := [.lit (.bool true)], args := [d1, d2] }
  | _ => none }
def fnExactPlaceOfRow : OpenClaim := { program := "ytddfakhlncihoaa", sum := "de7a7c2d36e64dc093a76f8a5bb41dba32a64fef0d59124840ffcd8108c07921", func := "loop.example/g01209/laws.FnExactPlaceOf", spec := "fnExactPlaceOf", apart := false }
def FnExactPlaceOfSaid : Prop := fnExactPlaceOfRow.holds Try.pinned (OpenSpec.ofChange fnExactPlaceOfSpec)

/-- ITS FALSE NEIGHBOUR: 'it returns false'. Refute it at one input. -/
def fnExactPlaceOfWrong : ChangeSpec := { name := "fnExactPlaceOf", fn := fun _ => fun
  | [d1, d2] => { results := [.lit (.bool false)], args := [d1, d2] }
  | _ => none }
def FnExactPlaceOfWrongFalsely : Prop := fnExactPlaceOfRow.holds Try.pinned (OpenSpec.ofChange fnExactPlaceOfWrong)

/-- 'laws.FnExactBelowPole': WHATEVER THE INPUT: true; the input reads as it did. -/
def fnExactBelowPoleSpec : ChangeSpec := { name := "fnExactBelowPole", fn := fun _ => fun
  | [d1, d2] => { results := [.lit (.bool true)], args := [d1, d2] }
  | _ => none }
def fnExactBelowPoleRow : OpenClaim := { program := "ytddfakhlncihoaa", sum := "de7a7c2d36e64dc093a76f8a5bb41dba32a64fef0d59124840ffcd8108c07921", func := "loop.example/g01209/laws.FnExactBelowPole", spec := "fnExactBelowPole", unfollowed := true, recurses := true, apart := false }
def FnExactBelowPoleSaid : Prop := fnExactBelowPoleRow.holds Try.pinned (OpenSpec.ofChange fnExactBelowPoleSpec)

/-- ITS FALSE NEIGHBOUR: 'it returns false'. Refute it at one input. -/
def fnExactBelowPoleWrong : ChangeSpec := { name := "fnExactBelowPole", fn := fun _ => fun
  | [d1, d2] => { results := [.lit (.bool false)], args := [d1, d2] }
  | _ => none }
def FnExactBelowPoleWrongFalsely : Prop := fnExactBelowPoleRow.holds Try.pinned (OpenSpec.ofChange fnExactBelowPoleWrong)

/-- 'laws.FnExactClosePole': WHATEVER THE INPUT: true; the input reads as it did. -/
def fnExactClosePoleSpec : ChangeSpec := { name := "fnExactClosePole", fn := fun _ => fun
  | [d] => { results := [.lit (.bool true)], args := [d] }
  | _ => none }
def fnExactClosePoleRow : OpenClaim := { program := "ytddfakhlncihoaa", sum := "de7a7c2d36e64dc093a76f8a5bb41dba32a64fef0d59124840ffcd8108c07921", func := "loop.example/g01209/laws.FnExactClosePole", spec := "fnExactClosePole", unfollowed := true, recurses := true, apart := false }
def FnExactClosePoleSaid : Prop := fnExactClosePoleRow.holds Try.pinned (OpenSpec.ofChange fnExactClosePoleSpec)

/-- ITS FALSE NEIGHBOUR: 'it returns false'. Refute it at one input. -/
def fnExactClosePoleWrong : ChangeSpec := { name := "fnExactClosePole", fn := fun _ => fun
  | [d] => { results := [.lit (.bool false)], args := [d] }
  | _ => none }
def FnExactClosePoleWrongFalsely : Prop := fnExactClosePoleRow.holds Try.pinned (OpenSpec.ofChange fnExactClosePoleWrong)

/-- 'laws.FnExactOpenPole': WHATEVER THE INPUT: true; the input reads as it did. -/
def fnExactOpenPoleSpec : ChangeSpec := { name := "fnExactOpenPole", fn := fun _ => fun
  | [d] => { results := [.lit (.bool true)], args := [d] }
  | _ => none }
def fnExactOpenPoleRow : OpenClaim := { program := "ytddfakhlncihoaa", sum := "de7a7c2d36e64dc093a76f8a5bb41dba32a64fef0d59124840ffcd8108c07921", func := "loop.example/g01209/laws.FnExactOpenPole", spec := "fnExactOpenPole", unfollowed := true, recurses := true, apart := false }
def FnExactOpenPoleSaid : Prop := fnExactOpenPoleRow.holds Try.pinned (OpenSpec.ofChange fnExactOpenPoleSpec)

/-- ITS FALSE NEIGHBOUR: 'it returns false'. Refute it at one input. -/
def fnExactOpenPoleWrong : ChangeSpec := { name := "fnExactOpenPole", fn := fun _ => fun
  | [d] => { results := [.lit (.bool false)], args := [d] }
  | _ => none }
def FnExactOpenPoleWrongFalsely : Prop := fnExactOpenPoleRow.holds Try.pinned (OpenSpec.ofChange fnExactOpenPoleWrong)

/-- 'laws.FnExactPoleWay': WHATEVER THE INPUT: true; the input reads as it did. -/
def fnExactPoleWaySpec : ChangeSpec := { name := "fnExactPoleWay", fn := fun _ => fun
  | [d1, d2] => { results := [.lit (.bool true)], args := [d1, d2] }
  | _ => none }
def fnExactPoleWayRow : OpenClaim := { program := "ytddfakhlncihoaa", sum := "de7a7c2d36e64dc093a76f8a5bb41dba32a64fef0d59124840ffcd8108c07921", func := "loop.example/g01209/laws.FnExactPoleWay", spec := "fnExactPoleWay", unfollowed := true, recurses := true, apart := false }
def FnExactPoleWaySaid : Prop := fnExactPoleWayRow.holds Try.pinned (OpenSpec.ofChange fnExactPoleWaySpec)

/-- ITS FALSE NEIGHBOUR: 'it returns false'. Refute it at one input. -/
def fnExactPoleWayWrong : ChangeSpec := { name := "fnExactPoleWay", fn := fun _ => fun
  | [d1, d2] => { results := [.lit (.bool false)], args := [d1, d2] }
  | _ => none }
def FnExactPoleWayWrongFalsely : Prop := fnExactPoleWayRow.holds Try.pinned (OpenSpec.ofChange fnExactPoleWayWrong)

/-- 'laws.FnExactPoleInversions': WHATEVER THE INPUT: true; the input reads as it did. -/
def fnExactPoleInversionsSpec : ChangeSpec := { name := "fnExactPoleInversions", fn := fun _ => fun
  | [d] => { results := [.lit (.bool true)], args := [d] }
  | _ => none }
def fnExactPoleInversionsRow : OpenClaim := { program := "ytddfakhlncihoaa", sum := "de7a7c2d36e64dc093a76f8a5bb41dba32a64fef0d59124840ffcd8108c07921", func := "loop.example/g01209/laws.FnExactPoleInversions", spec := "fnExactPoleInversions", apart := false }
def FnExactPoleInversionsSaid : Prop := fnExactPoleInversionsRow.holds Try.pinned (OpenSpec.ofChange fnExactPoleInversionsSpec)

/-- ITS FALSE NEIGHBOUR: 'it returns false'. Refute it at one input. -/
def fnExactPoleInversionsWrong : ChangeSpec := { name := "fnExactPoleInversions", fn := fun _ => fun
  | [d] => { results := [.lit (.bool false)], args := [d] }
  | _ => none }
def FnExactPoleInversionsWrongFalsely : Prop := fnExactPoleInversionsRow.holds Try.pinned (OpenSpec.ofChange fnExactPoleInversionsWrong)

/-- 'laws.FnExactBackTurned': WHATEVER THE INPUT: true; the input reads as it did. -/
def fnExactBackTurnedSpec : ChangeSpec := { name := "fnExactBackTurned", fn := fun _ => fun
  | [d] => { results := [.lit (.bool true)], args := [d] }
  | _ => none }
def fnExactBackTurnedRow : OpenClaim := { program := "ytddfakhlncihoaa", sum := "de7a7c2d36e64dc093a76f8a5bb41dba32a64fef0d59124840ffcd8108c07921", func := "loop.example/g01209/laws.FnExactBackTurned", spec := "fnExactBackTurned", apart := false }
def FnExactBackTurnedSaid : Prop := fnExactBackTurnedRow.holds Try.pinned (OpenSpec.ofChange fnExactBackTurnedSpec)

/-- ITS FALSE NEIGHBOUR: 'it returns false'. Refute it at one input. -/
def fnExactBackTurnedWrong : ChangeSpec := { name := "fnExactBackTurned", fn := fun _ => fun
  | [d] => { results := [.lit (.bool false)], args := [d] }
  | _ => none }
def FnExactBackTurnedWrongFalsely : Prop := fnExactBackTurnedRow.holds Try.pinned (OpenSpec.ofChange fnExactBackTurnedWrong)

/-- 'laws.FnExactPoleDescents': WHATEVER THE INPUT: true; the input reads as it did. -/
def fnExactPoleDescentsSpec : ChangeSpec := { name := "fnExactPoleDescents", fn := fun _ => fun
  | [d] => { results := [.lit (.bool true)], args := [d] }
  | _ => none }
def fnExactPoleDescentsRow : OpenClaim := { program := "ytddfakhlncihoaa", sum := "de7a7c2d36e64dc093a76f8a5bb41dba32a64fef0d59124840ffcd8108c07921", func := "loop.example/g01209/laws.FnExactPoleDescents", spec := "fnExactPoleDescents", apart := false }
def FnExactPoleDescentsSaid : Prop := fnExactPoleDescentsRow.holds Try.pinned (OpenSpec.ofChange fnExactPoleDescentsSpec)

/-- ITS FALSE NEIGHBOUR: 'it returns false'. Refute it at one input. -/
def fnExactPoleDescentsWrong : ChangeSpec := { name := "fnExactPoleDescents", fn := fun _ => fun
  | [d] => { results := [.lit (.bool false)], args := [d] }
  | _ => none }
def FnExactPoleDescentsWrongFalsely : Prop := fnExactPoleDescentsRow.holds Try.pinned (OpenSpec.ofChange fnExactPoleDescentsWrong)

/-- 'laws.FnExactThenTurned': WHATEVER THE INPUT: true; the input reads as it did. -/
def fnExactThenTurnedSpec : ChangeSpec := { name := "fnExactThenTurned", fn := fun _ => fun
  | [d1, d2] => { results := [.lit (.bool true)], args := [d1, d2] }
  | _ => none }
def fnExactThenTurnedRow : OpenClaim := { program := "ytddfakhlncihoaa", sum := "de7a7c2d36e64dc093a76f8a5bb41dba32a64fef0d59124840ffcd8108c07921", func := "loop.example/g01209/laws.FnExactThenTurned", spec := "fnExactThenTurned", apart := false }
def FnExactThenTurnedSaid : Prop := fnExactThenTurnedRow.holds Try.pinned (OpenSpec.ofChange fnExactThenTurnedSpec)

/-- ITS FALSE NEIGHBOUR: 'it returns false'. Refute it at one input. -/
def fnExactThenTurnedWrong : ChangeSpec := { name := "fnExactThenTurned", fn := fun _ => fun
  | [d1, d2] => { results := [.lit (.bool false)], args := [d1, d2] }
  | _ => none }
def FnExactThenTurnedWrongFalsely : Prop := fnExactThenTurnedRow.holds Try.pinned (OpenSpec.ofChange fnExactThenTurnedWrong)

/-- 'laws.FnExactPolePower': WHATEVER THE INPUT: true; the input reads as it did. -/
def fnExactPolePowerSpec : ChangeSpec := { name := "fnExactPolePower", fn := fun _ => fun
  | [d] => { results := [.lit (.bool true)], args := [d] }
  | _ => none }
def fnExactPolePowerRow : OpenClaim := { program := "ytddfakhlncihoaa", sum := "de7a7c2d36e64dc093a76f8a5bb41dba32a64fef0d59124840ffcd8108c07921", func := "loop.example/g01209/laws.FnExactPolePower", spec := "fnExactPolePower", unfollowed := true, recurses := true, apart := false }
def FnExactPolePowerSaid : Prop := fnExactPolePowerRow.holds Try.pinned (OpenSpec.ofChange fnExactPolePowerSpec)

/-- ITS FALSE NEIGHBOUR: 'it returns false'. Refute it at one input. -/
def fnExactPolePowerWrong : ChangeSpec := { name := "fnExactPolePower", fn := fun _ => fun
  | [d] => { results := [.lit (.bool false)], args := [d] }
  | _ => none }
def FnExactPolePowerWrongFalsely : Prop := fnExactPolePowerRow.holds Try.pinned (OpenSpec.ofChange fnExactPolePowerWrong)

/-- 'laws.FnExactIsLeastPole': WHATEVER THE INPUT: true; the input reads as it did. -/
def fnExactIsLeastPoleSpec : ChangeSpec := { name := "fnExactIsLeastPole", fn := fun _ => fun
  | [d] => { results := [.lit (.bool true)], args := [d] }
  | _ => none }
def fnExactIsLeastPoleRow : OpenClaim := { program := "ytddfakhlncihoaa", sum := "de7a7c2d36e64dc093a76f8a5bb41dba32a64fef0d59124840ffcd8108c07921", func := "loop.example/g01209/laws.FnExactIsLeastPole", spec := "fnExactIsLeastPole", unfollowed := true, recurses := true, apart := false }
def FnExactIsLeastPoleSaid : Prop := fnExactIsLeastPoleRow.holds Try.pinned (OpenSpec.ofChange fnExactIsLeastPoleSpec)

/-- ITS FALSE NEIGHBOUR: 'it returns false'. Refute it at one input. -/
def fnExactIsLeastPoleWrong : ChangeSpec := { name := "fnExactIsLeastPole", fn := fun _ => fun
  | [d] => { results := [.lit (.bool false)], args := [d] }
  | _ => none }
def FnExactIsLeastPoleWrongFalsely : Prop := fnExactIsLeastPoleRow.holds Try.pinned (OpenSpec.ofChange fnExactIsLeastPoleWrong)

/-- 'laws.FnExactPoleResult': WHATEVER THE INPUT: true; the input reads as it did. -/
def fnExactPoleResultSpec : ChangeSpec := { name := "fnExactPoleResult", fn := fun _ => fun
  | [d] => { results := [.lit (.bool true)], args := [d] }
  | _ => none }
def fnExactPoleResultRow : OpenClaim := { program := "ytddfakhlncihoaa", sum := "de7a7c2d36e64dc093a76f8a5bb41dba32a64fef0d59124840ffcd8108c07921", func := "loop.example/g01209/laws.FnExactPoleResult", spec := "fnExactPoleResult", unfollowed := true, recurses := true, apart := false }
def FnExactPoleResultSaid : Prop := fnExactPoleResultRow.holds Try.pinned (OpenSpec.ofChange fnExactPoleResultSpec)

/-- ITS FALSE NEIGHBOUR: 'it returns false'. Refute it at one input. -/
def fnExactPoleResultWrong : ChangeSpec := { name := "fnExactPoleResult", fn := fun _ => fun
  | [d] => { results := [.lit (.bool false)], args := [d] }
  | _ => none }
def FnExactPoleResultWrongFalsely : Prop := fnExactPoleResultRow.holds Try.pinned (OpenSpec.ofChange fnExactPoleResultWrong)

/-- 'laws.FnExactLeastPole': WHATEVER THE INPUT: true; the input reads as it did. -/
def fnExactLeastPoleSpec : ChangeSpec := { name := "fnExactLeastPole", fn := fun _ => fun
  | [d] => { results := [.lit (.bool true)], args := [d] }
  | _ => none }
def fnExactLeastPoleRow : OpenClaim := { program := "ytddfakhlncihoaa", sum := "de7a7c2d36e64dc093a76f8a5bb41dba32a64fef0d59124840ffcd8108c07921", func := "loop.example/g01209/laws.FnExactLeastPole", spec := "fnExactLeastPole", apart := false }
def FnExactLeastPoleSaid : Prop := fnExactLeastPoleRow.holds Try.pinned (OpenSpec.ofChange fnExactLeastPoleSpec)

/-- ITS FALSE NEIGHBOUR: 'it returns false'. Refute it at one input. -/
def fnExactLeastPoleWrong : ChangeSpec := { name := "fnExactLeastPole", fn := fun _ => fun
  | [d] => { results := [.lit (.bool false)], args := [d] }
  | _ => none }
def FnExactLeastPoleWrongFalsely : Prop := fnExactLeastPoleRow.holds Try.pinned (OpenSpec.ofChange fnExactLeastPoleWrong)

/- THE SECOND FORM. 'bulk': how many values and letters a reading holds, each counted each time it is reached (what is shared counts as often as it is met; a slice's spare places count too). A statement '..UptoSaid' is the law's where the arguments, and the package variables that the reading takes, are together of bulk at most 1048576: NARROWER than '..Said'. Prove '..Said' where nothing that the law and all that it calls make is longer than what came in: it says more and counts as full. Else prove '..UptoSaid'. A law counts once. -/
mutual
def uptoBulk {H : Type} : DataW H → Nat
  | .lit (.string bytes) => bytes.length + 1
  | .lit _ => 1
  | .nil => 1
  | .ptr d => uptoBulk d + 1
  | .slice elems spare => uptoBulkAll elems + uptoBulkAll spare + 1
  | .agg parts => uptoBulkAll parts + 1
  | .iface _ d => uptoBulk d + 1
  | .map entries => uptoBulkEntries entries + 1
  | .held _ => 1
def uptoBulkAll {H : Type} : List (DataW H) → Nat
  | [] => 0
  | d :: r => uptoBulk d + uptoBulkAll r
def uptoBulkEntries {H : Type} : List (Lit × DataW H) → Nat
  | [] => 0
  | x :: r => uptoBulkEntry x + uptoBulkEntries r
def uptoBulkEntry {H : Type} : Lit × DataW H → Nat
  | (.string bytes, d) => bytes.length + uptoBulk d + 1
  | (_, d) => uptoBulk d + 1
 end
def uptoSmall : (H : Type) → List (DataW H) → Bool := fun _ ds => decide (uptoBulkAll ds ≤ 1048576)
def OpenSpec.upto (s : _root_.Go.ChangeSpec) : _root_.Go.OpenSpec := { _root_.Go.OpenSpec.ofChange s with cond := some uptoSmall }

/-- 'laws.FnExactIsPole', WHERE WHAT IT READS IS OF BULK AT MOST 1048576: true; the input reads as it did. -/
def fnExactIsPoleUptoRow : OpenClaim := { program := "ytddfakhlncihoaa", sum := "de7a7c2d36e64dc093a76f8a5bb41dba32a64fef0d59124840ffcd8108c07921", func := "loop.example/g01209/laws.FnExactIsPole", spec := "fnExactIsPole", unfollowed := true, recurses := true, apart := false, narrowed := true }
def FnExactIsPoleUptoSaid : Prop := fnExactIsPoleUptoRow.holds Try.pinned (OpenSpec.upto fnExactIsPoleSpec)

/-- 'laws.FnExactSpinPole', WHERE WHAT IT READS IS OF BULK AT MOST 1048576: true; the input reads as it did. -/
def fnExactSpinPoleUptoRow : OpenClaim := { program := "ytddfakhlncihoaa", sum := "de7a7c2d36e64dc093a76f8a5bb41dba32a64fef0d59124840ffcd8108c07921", func := "loop.example/g01209/laws.FnExactSpinPole", spec := "fnExactSpinPole", unfollowed := true, recurses := true, apart := false, narrowed := true }
def FnExactSpinPoleUptoSaid : Prop := fnExactSpinPoleUptoRow.holds Try.pinned (OpenSpec.upto fnExactSpinPoleSpec)

/-- 'laws.FnExactIsTurned', WHERE WHAT IT READS IS OF BULK AT MOST 1048576: true; the input reads as it did. -/
def fnExactIsTurnedUptoRow : OpenClaim := { program := "ytddfakhlncihoaa", sum := "de7a7c2d36e64dc093a76f8a5bb41dba32a64fef0d59124840ffcd8108c07921", func := "loop.example/g01209/laws.FnExactIsTurned", spec := "fnExactIsTurned", apart := false, narrowed := true }
def FnExactIsTurnedUptoSaid : Prop := fnExactIsTurnedUptoRow.holds Try.pinned (OpenSpec.upto fnExactIsTurnedSpec)

/-- 'laws.FnExactTurnPole', WHERE WHAT IT READS IS OF BULK AT MOST 1048576: true; the input reads as it did. -/
def fnExactTurnPoleUptoRow : OpenClaim := { program := "ytddfakhlncihoaa", sum := "de7a7c2d36e64dc093a76f8a5bb41dba32a64fef0d59124840ffcd8108c07921", func := "loop.example/g01209/laws.FnExactTurnPole", spec := "fnExactTurnPole", unfollowed := true, recurses := true, apart := false, narrowed := true }
def FnExactTurnPoleUptoSaid : Prop := fnExactTurnPoleUptoRow.holds Try.pinned (OpenSpec.upto fnExactTurnPoleSpec)

/-- 'laws.FnExactPoleEnd', WHERE WHAT IT READS IS OF BULK AT MOST 1048576: true; the input reads as it did. -/
def fnExactPoleEndUptoRow : OpenClaim := { program := "ytddfakhlncihoaa", sum := "de7a7c2d36e64dc093a76f8a5bb41dba32a64fef0d59124840ffcd8108c07921", func := "loop.example/g01209/laws.FnExactPoleEnd", spec := "fnExactPoleEnd", unfollowed := true, recurses := true, apart := false, narrowed := true }
def FnExactPoleEndUptoSaid : Prop := fnExactPoleEndUptoRow.holds Try.pinned (OpenSpec.upto fnExactPoleEndSpec)

/-- 'laws.FnExactPlaceOf', WHERE WHAT IT READS IS OF BULK AT MOST 1048576: true; the input reads as it did. -/
def fnExactPlaceOfUptoRow : OpenClaim := { program := "ytddfakhlncihoaa", sum := "de7a7c2d36e64dc093a76f8a5bb41dba32a64fef0d59124840ffcd8108c07921", func := "loop.example/g01209/laws.FnExactPlaceOf", spec := "fnExactPlaceOf", apart := false, narrowed := true }
def FnExactPlaceOfUptoSaid : Prop := fnExactPlaceOfUptoRow.holds Try.pinned (OpenSpec.upto fnExactPlaceOfSpec)

/-- 'laws.FnExactBelowPole', WHERE WHAT IT READS IS OF BULK AT MOST 1048576: true; the input reads as it did. -/
def fnExactBelowPoleUptoRow : OpenClaim := { program := "ytddfakhlncihoaa", sum := "de7a7c2d36e64dc093a76f8a5bb41dba32a64fef0d59124840ffcd8108c07921", func := "loop.example/g01209/laws.FnExactBelowPole", spec := "fnExactBelowPole", unfollowed := true, recurses := true, apart := false, narrowed := true }
def FnExactBelowPoleUptoSaid : Prop := fnExactBelowPoleUptoRow.holds Try.pinned (OpenSpec.upto fnExactBelowPoleSpec)

/-- 'laws.FnExactClosePole', WHERE WHAT IT READS IS OF BULK AT MOST 1048576: true; the input reads as it did. -/
def fnExactClosePoleUptoRow : OpenClaim := { program := "ytddfakhlncihoaa", sum := "de7a7c2d36e64dc093a76f8a5bb41dba32a64fef0d59124840ffcd8108c07921", func := "loop.example/g01209/laws.FnExactClosePole", spec := "fnExactClosePole", unfollowed := true, recurses := true, apart := false, narrowed := true }
def FnExactClosePoleUptoSaid : Prop := fnExactClosePoleUptoRow.holds Try.pinned (OpenSpec.upto fnExactClosePoleSpec)

/-- 'laws.FnExactOpenPole', WHERE WHAT IT READS IS OF BULK AT MOST 1048576: true; the input reads as it did. -/
def fnExactOpenPoleUptoRow : OpenClaim := { program := "ytddfakhlncihoaa", sum := "de7a7c2d36e64dc093a76f8a5bb41dba32a64fef0d59124840ffcd8108c07921", func := "loop.example/g01209/laws.FnExactOpenPole", spec := "fnExactOpenPole", unfollowed := true, recurses := true, apart := false, narrowed := true }
def FnExactOpenPoleUptoSaid : Prop := fnExactOpenPoleUptoRow.holds Try.pinned (OpenSpec.upto fnExactOpenPoleSpec)

/-- 'laws.FnExactPoleWay', WHERE WHAT IT READS IS OF BULK AT MOST 1048576: true; the input reads as it did. -/
def fnExactPoleWayUptoRow : OpenClaim := { program := "ytddfakhlncihoaa", sum := "de7a7c2d36e64dc093a76f8a5bb41dba32a64fef0d59124840ffcd8108c07921", func := "loop.example/g01209/laws.FnExactPoleWay", spec := "fnExactPoleWay", unfollowed := true, recurses := true, apart := false, narrowed := true }
def FnExactPoleWayUptoSaid : Prop := fnExactPoleWayUptoRow.holds Try.pinned (OpenSpec.upto fnExactPoleWaySpec)

/-- 'laws.FnExactPoleInversions', WHERE WHAT IT READS IS OF BULK AT MOST 1048576: true; the input reads as it did. -/
def fnExactPoleInversionsUptoRow : OpenClaim := { program := "ytddfakhlncihoaa", sum := "de7a7c2d36e64dc093a76f8a5bb41dba32a64fef0d59124840ffcd8108c07921", func := "loop.example/g01209/laws.FnExactPoleInversions", spec := "fnExactPoleInversions", apart := false, narrowed := true }
def FnExactPoleInversionsUptoSaid : Prop := fnExactPoleInversionsUptoRow.holds Try.pinned (OpenSpec.upto fnExactPoleInversionsSpec)

/-- 'laws.FnExactBackTurned', WHERE WHAT IT READS IS OF BULK AT MOST 1048576: true; the input reads as it did. -/
def fnExactBackTurnedUptoRow : OpenClaim := { program := "ytddfakhlncihoaa", sum := "de7a7c2d36e64dc093a76f8a5bb41dba32a64fef0d59124840ffcd8108c07921", func := "loop.example/g01209/laws.FnExactBackTurned", spec := "fnExactBackTurned", apart := false, narrowed := true }
def FnExactBackTurnedUptoSaid : Prop := fnExactBackTurnedUptoRow.holds Try.pinned (OpenSpec.upto fnExactBackTurnedSpec)

/-- 'laws.FnExactPoleDescents', WHERE WHAT IT READS IS OF BULK AT MOST 1048576: true; the input reads as it did. -/
def fnExactPoleDescentsUptoRow : OpenClaim := { program := "ytddfakhlncihoaa", sum := "de7a7c2d36e64dc093a76f8a5bb41dba32a64fef0d59124840ffcd8108c07921", func := "loop.example/g01209/laws.FnExactPoleDescents", spec := "fnExactPoleDescents", apart := false, narrowed := true }
def FnExactPoleDescentsUptoSaid : Prop := fnExactPoleDescentsUptoRow.holds Try.pinned (OpenSpec.upto fnExactPoleDescentsSpec)

/-- 'laws.FnExactThenTurned', WHERE WHAT IT READS IS OF BULK AT MOST 1048576: true; the input reads as it did. -/
def fnExactThenTurnedUptoRow : OpenClaim := { program := "ytddfakhlncihoaa", sum := "de7a7c2d36e64dc093a76f8a5bb41dba32a64fef0d59124840ffcd8108c07921", func := "loop.example/g01209/laws.FnExactThenTurned", spec := "fnExactThenTurned", apart := false, narrowed := true }
def FnExactThenTurnedUptoSaid : Prop := fnExactThenTurnedUptoRow.holds Try.pinned (OpenSpec.upto fnExactThenTurnedSpec)

/-- 'laws.FnExactPolePower', WHERE WHAT IT READS IS OF BULK AT MOST 1048576: true; the input reads as it did. -/
def fnExactPolePowerUptoRow : OpenClaim := { program := "ytddfakhlncihoaa", sum := "de7a7c2d36e64dc093a76f8a5bb41dba32a64fef0d59124840ffcd8108c07921", func := "loop.example/g01209/laws.FnExactPolePower", spec := "fnExactPolePower", unfollowed := true, recurses := true, apart := false, narrowed := true }
def FnExactPolePowerUptoSaid : Prop := fnExactPolePowerUptoRow.holds Try.pinned (OpenSpec.upto fnExactPolePowerSpec)

/-- 'laws.FnExactIsLeastPole', WHERE WHAT IT READS IS OF BULK AT MOST 1048576: true; the input reads as it did. -/
def fnExactIsLeastPoleUptoRow : OpenClaim := { program := "ytddfakhlncihoaa", sum := "de7a7c2d36e64dc093a76f8a5bb41dba32a64fef0d59124840ffcd8108c07921", func := "loop.example/g01209/laws.FnExactIsLeastPole", spec := "fnExactIsLeastPole", unfollowed := true, recurses := true, apart := false, narrowed := true }
def FnExactIsLeastPoleUptoSaid : Prop := fnExactIsLeastPoleUptoRow.holds Try.pinned (OpenSpec.upto fnExactIsLeastPoleSpec)

/-- 'laws.FnExactPoleResult', WHERE WHAT IT READS IS OF BULK AT MOST 1048576: true; the input reads as it did. -/
def fnExactPoleResultUptoRow : OpenClaim := { program := "ytddfakhlncihoaa", sum := "de7a7c2d36e64dc093a76f8a5bb41dba32a64fef0d59124840ffcd8108c07921", func := "loop.example/g01209/laws.FnExactPoleResult", spec := "fnExactPoleResult", unfollowed := true, recurses := true, apart := false, narrowed := true }
def FnExactPoleResultUptoSaid : Prop := fnExactPoleResultUptoRow.holds Try.pinned (OpenSpec.upto fnExactPoleResultSpec)

/-- 'laws.FnExactLeastPole', WHERE WHAT IT READS IS OF BULK AT MOST 1048576: true; the input reads as it did. -/
def fnExactLeastPoleUptoRow : OpenClaim := { program := "ytddfakhlncihoaa", sum := "de7a7c2d36e64dc093a76f8a5bb41dba32a64fef0d59124840ffcd8108c07921", func := "loop.example/g01209/laws.FnExactLeastPole", spec := "fnExactLeastPole", apart := false, narrowed := true }
def FnExactLeastPoleUptoSaid : Prop := fnExactLeastPoleUptoRow.holds Try.pinned (OpenSpec.upto fnExactLeastPoleSpec)

end Rows
end Go.Proofs.Ytddfakhlncihoaa
