/- FnChancesExact: the rare draws: each case computed by the kernel. -/
import Derived.Test.YtpmpgncjlcdabaaChkCh0
namespace Go.Proofs.Ytpmpgncjlcdabaa.L
open Go.RowKit Go.Proofs.Ytpmpgncjlcdabaa.Q Go.Proofs.YtpmpgncjlcdabaaW.PrintWords Go.Proofs.YtpmpgncjlcdabaaW.PrintLast
set_option linter.unusedVariables false
set_option linter.unusedSimpArgs false
theorem chk_low_0 : chkOne (1, 0) = true := by decide +kernel
theorem chk_low_1 : chkOne (1, 1) = true := by decide +kernel
theorem chk_low_2 : chkOne (1, 20) = true := by decide +kernel
theorem chk_low_3 : chkOne (1, 21) = true := by decide +kernel
theorem chk_low_4 : chkOne (1, (-1)) = true := by decide +kernel
theorem chk_low_5 : chkOne (2, 0) = true := by decide +kernel
theorem chk_low_6 : chkOne (2, 1) = true := by decide +kernel
theorem chk_low_7 : chkOne (2, 20) = true := by decide +kernel
theorem chk_low_8 : chkOne (2, 21) = true := by decide +kernel
theorem chk_low_9 : chkOne (2, (-1)) = true := by decide +kernel
theorem chk_low_10 : chkOne (6, 0) = true := by decide +kernel
theorem chk_low_11 : chkOne (6, 1) = true := by decide +kernel
theorem chk_low_12_0 : enough (chk.f 4000 (6, 20, ((0 : Nat) : Int) - 1)) = true := by decide +kernel
theorem chk_low_12_1 : enough (chk.f 4000 (6, 20, ((1 : Nat) : Int) - 1)) = true := by decide +kernel
theorem chk_low_12_2 : enough (chk.f 4000 (6, 20, ((2 : Nat) : Int) - 1)) = true := by decide +kernel
theorem chk_low_12_3 : enough (chk.f 4000 (6, 20, ((3 : Nat) : Int) - 1)) = true := by decide +kernel
theorem chk_low_12_4 : enough (chk.f 4000 (6, 20, ((4 : Nat) : Int) - 1)) = true := by decide +kernel
theorem chk_low_12_5 : enough (chk.f 4000 (6, 20, ((5 : Nat) : Int) - 1)) = true := by decide +kernel
theorem chk_low_12_6 : enough (chk.f 4000 (6, 20, ((6 : Nat) : Int) - 1)) = true := by decide +kernel
theorem chk_low_12 : chkOne (6, 20) = true := by
  unfold chkOne
  rw [show List.range 7 = [0, 1, 2, 3, 4, 5, 6] from rfl]
  simp only [List.all_cons, List.all_nil, Bool.and_true, chk_low_12_0, chk_low_12_1, chk_low_12_2, chk_low_12_3, chk_low_12_4, chk_low_12_5, chk_low_12_6]
theorem chk_low_13 : chkOne (6, 21) = true := by decide +kernel
theorem chk_low_14 : chkOne (6, (-1)) = true := by decide +kernel
theorem chk_low_15 : chkOne (7, 0) = true := by decide +kernel
theorem chk_low_16 : chkOne (7, 1) = true := by decide +kernel
theorem chk_low_17 : chkOne (7, 20) = true := by decide +kernel
theorem chk_low_18 : chkOne (7, 21) = true := by decide +kernel
theorem chk_low_19 : chkOne (7, (-1)) = true := by decide +kernel
theorem chk_low_20 : chkOne ((-1), 0) = true := by decide +kernel
theorem chk_low_21 : chkOne ((-1), 1) = true := by decide +kernel
theorem chk_low_22 : chkOne ((-1), 20) = true := by decide +kernel
theorem chk_low_23 : chkOne ((-1), 21) = true := by decide +kernel
theorem chk_low_24 : chkOne ((-1), (-1)) = true := by decide +kernel
theorem chk_low : chkAll low = true := by
  have e : low = [(1, 0), (1, 1), (1, 20), (1, 21), (1, -1), (2, 0), (2, 1), (2, 20), (2, 21), (2, -1), (6, 0), (6, 1), (6, 20), (6, 21), (6, -1), (7, 0), (7, 1), (7, 20), (7, 21), (7, -1), (-1, 0), (-1, 1), (-1, 20), (-1, 21), (-1, -1)] := by decide
  rw [e]
  simp only [chkAll, List.all_cons, List.all_nil, Bool.and_true, chk_low_0, chk_low_1, chk_low_2, chk_low_3, chk_low_4, chk_low_5, chk_low_6, chk_low_7, chk_low_8, chk_low_9, chk_low_10, chk_low_11, chk_low_12, chk_low_13, chk_low_14, chk_low_15, chk_low_16, chk_low_17, chk_low_18, chk_low_19, chk_low_20, chk_low_21, chk_low_22, chk_low_23, chk_low_24]
end Go.Proofs.Ytpmpgncjlcdabaa.L
