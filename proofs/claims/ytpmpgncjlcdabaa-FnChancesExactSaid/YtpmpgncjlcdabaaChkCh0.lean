/- FnChancesExact: what is drawn, up to four wires: each case computed by the kernel. -/
import Derived.Test.YtpmpgncjlcdabaaChkFnChancesExact
namespace Go.Proofs.Ytpmpgncjlcdabaa.L
open Go.RowKit Go.Proofs.Ytpmpgncjlcdabaa.Q Go.Proofs.YtpmpgncjlcdabaaW.PrintWords Go.Proofs.YtpmpgncjlcdabaaW.PrintLast
set_option linter.unusedVariables false
set_option linter.unusedSimpArgs false
/-- Enough rounds are left where the second part begins. -/
def enough : Option Nat → Bool
  | some m => decide (2001 ≤ m)
  | none => false
def chkOne (t : Int × Int) : Bool := (List.range 7).all fun c => enough (chk.f 4000 (t.1, t.2, (c : Int) - 1))
def chkAll (ts : List (Int × Int)) : Bool := ts.all chkOne
def low : List (Int × Int) := [1, 2, 6, 7, -1].flatMap fun n => [0, 1, 20, 21, -1].map fun k => ((n : Int), (k : Int))
def row (n : Nat) : List (Int × Int) := (List.range 9).map fun k => (((n + 2 : Nat) : Int), ((k : Nat) : Int))
theorem chk_0 : chkAll (row 0) = true := by decide +kernel
theorem chk_1 : chkAll (row 1) = true := by decide +kernel
theorem chk_2 : chkAll (row 2) = true := by decide +kernel
end Go.Proofs.Ytpmpgncjlcdabaa.L
