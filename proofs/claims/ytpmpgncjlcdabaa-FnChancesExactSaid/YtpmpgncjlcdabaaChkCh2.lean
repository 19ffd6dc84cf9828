/- FnChancesExact: five wires: each case computed by the kernel. -/
import Derived.Test.YtpmpgncjlcdabaaChkCh0
namespace Go.Proofs.Ytpmpgncjlcdabaa.L
open Go.RowKit Go.Proofs.Ytpmpgncjlcdabaa.Q Go.Proofs.YtpmpgncjlcdabaaW.PrintWords Go.Proofs.YtpmpgncjlcdabaaW.PrintLast
set_option linter.unusedVariables false
set_option linter.unusedSimpArgs false
theorem chk_3_0 : chkOne (5, 0) = true := by decide +kernel
theorem chk_3_1 : chkOne (5, 1) = true := by decide +kernel
theorem chk_3_2 : chkOne (5, 2) = true := by decide +kernel
theorem chk_3_3 : chkOne (5, 3) = true := by decide +kernel
theorem chk_3_4 : chkOne (5, 4) = true := by decide +kernel
theorem chk_3_5 : chkOne (5, 5) = true := by decide +kernel
theorem chk_3_6 : chkOne (5, 6) = true := by decide +kernel
theorem chk_3_7 : chkOne (5, 7) = true := by decide +kernel
theorem chk_3_8 : chkOne (5, 8) = true := by decide +kernel
theorem chk_3 : chkAll (row 3) = true := by
  have e : (row 3) = [(5, 0), (5, 1), (5, 2), (5, 3), (5, 4), (5, 5), (5, 6), (5, 7), (5, 8)] := by decide
  rw [e]
  simp only [chkAll, List.all_cons, List.all_nil, Bool.and_true, chk_3_0, chk_3_1, chk_3_2, chk_3_3, chk_3_4, chk_3_5, chk_3_6, chk_3_7, chk_3_8]
end Go.Proofs.Ytpmpgncjlcdabaa.L
