/- The closed facts of this seat's program that every row asks, each run by the kernel as a theorem of its own. No condition. -/
import Derived.Test.YtmljdibhdnckpaaRows
import Derived.Test.YtmljdibhdnckpaaChecked
import Derived.JoinedOf
import Derived.WalkKit
namespace Go.Proofs.Ytmljdibhdnckpaa.Closed
theorem c1 : (laidOutB Try.prog) = true := by kernel_rfl
theorem c2 : (mapsRowed Try.prog) = true := by kernel_rfl
theorem c5 : ((Rows.fnExactLeastSortingRow.stops == [])) = true := by kernel_rfl
theorem c6 : ((Try.prog.stops == [])) = true := by kernel_rfl
theorem c7 : ((Rows.fnExactLeastSortingRow.knobs == [])) = true := by kernel_rfl
theorem c8 : ((Try.prog.stopKnobs == [])) = true := by kernel_rfl
theorem c22 : ((Rows.fnExactLeastSortingRow.plainKeys == Try.prog.plainKeys)) = true := by kernel_rfl
theorem c23 : (Rows.fnExactLeastSortingRow.shortTexts.isNone) = true := by kernel_rfl
theorem c24 : (Try.prog.stopsHeard) = true := by kernel_rfl
theorem c25 : (Try.prog.mayEnter) = true := by kernel_rfl
theorem c26 : ((Rows.fnExactLeastSortingRow.lifted == Try.prog.liftsFinal)) = true := by kernel_rfl
theorem c27 : ((Try.prog.make == some Rows.fnExactLeastSortingRow.make)) = true := by kernel_rfl
theorem own : ownKnob Try.prog.godebug = none := by kernel_rfl
theorem laidOut : laidOutB Try.prog = true := c1
end Go.Proofs.Ytmljdibhdnckpaa.Closed
