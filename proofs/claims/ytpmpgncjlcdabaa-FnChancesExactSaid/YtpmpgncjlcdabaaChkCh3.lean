/- FnChancesExact: six wires: each case computed by the kernel. -/
import Derived.Test.YtpmpgncjlcdabaaChkCh0
namespace Go.Proofs.Ytpmpgncjlcdabaa.L
open Go.RowKit Go.Proofs.Ytpmpgncjlcdabaa.Q Go.Proofs.YtpmpgncjlcdabaaW.PrintWords Go.Proofs.YtpmpgncjlcdabaaW.PrintLast
set_option linter.unusedVariables false
set_option linter.unusedSimpArgs false
theorem chk_4_0 : chkOne (6, 0) = true := by decide +kernel
theorem chk_4_1 : chkOne (6, 1) = true := by decide +kernel
theorem chk_4_2 : chkOne (6, 2) = true := by decide +kernel
theorem chk_4_3 : chkOne (6, 3) = true := by decide +kernel
theorem chk_4_4 : chkOne (6, 4) = true := by decide +kernel
theorem chk_4_5 : chkOne (6, 5) = true := by decide +kernel
theorem chk_4_6 : chkOne (6, 6) = true := by decide +kernel
theorem chk_4_7 : chkOne (6, 7) = true := by decide +kernel
theorem chk_4_8 : chkOne (6, 8) = true := by decide +kernel
theorem chk_4 : chkAll (row 4) = true := by
  have e : (row 4) = [(6, 0), (6, 1), (6, 2), (6, 3), (6, 4), (6, 5), (6, 6), (6, 7), (6, 8)] := by decide
  rw [e]
  simp only [chkAll, List.all_cons, List.all_nil, Bool.and_true, chk_4_0, chk_4_1, chk_4_2, chk_4_3, chk_4_4, chk_4_5, chk_4_6, chk_4_7, chk_4_8]
end Go.Proofs.Ytpmpgncjlcdabaa.L
