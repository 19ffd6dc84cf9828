/- The closed facts of this seat's program that every row asks, each run by the kernel as a theorem of its own. No condition. -/
import Derived.Test.YtgjamcfnpofbhaaRows
import Derived.Test.YtgjamcfnpofbhaaChecked
import Derived.JoinedOf
import Derived.WalkKit
namespace Go.Proofs.Ytgjamcfnpofbhaa.Closed
def W : List (List Char) := ["harness".toList, "9721a16e086291b8f30c5c640aa364cb9440e0e91439e939bc257ec4071bc216".toList, "cut".toList, "at".toList, "loop.example/g01209/laws.FnExactBelowPole".toList, "loop.example/g01209/laws.FnExactThenTurned".toList, "loop.example/g01209/laws.FnExactPolePower".toList, "loop.example/g01209/laws.FnExactIsLeastPole".toList, "loop.example/g01209/laws.FnExactPoleResult".toList, "loop.example/g01209/laws.FnExactLeastPole".toList]
theorem hL : Try.prog.initOrder = "harness " ++ ("9721a16e086291b8f30c5c640aa364cb" ++ ("9440e0e91439e939bc257ec4071bc216" ++ (" " ++ ("cut " ++ ("at " ++ ("loop.example/g01209/laws.FnExact" ++ ("BelowPole " ++ ("loop.example/g01209/laws.FnExact" ++ ("ThenTurned " ++ ("loop.example/g01209/laws.FnExact" ++ ("PolePower " ++ ("loop.example/g01209/laws.FnExact" ++ ("IsLeastPole " ++ ("loop.example/g01209/laws.FnExact" ++ ("PoleResult " ++ ("loop.example/g01209/laws.FnExact" ++ ("LeastPole"))))))))))))))))) := by kernel_rfl
theorem hT : Try.prog.initOrder.toList = "harness ".toList ++ ("9721a16e086291b8f30c5c640aa364cb".toList ++ ("9440e0e91439e939bc257ec4071bc216".toList ++ (" ".toList ++ ("cut ".toList ++ ("at ".toList ++ ("loop.example/g01209/laws.FnExact".toList ++ ("BelowPole ".toList ++ ("loop.example/g01209/laws.FnExact".toList ++ ("ThenTurned ".toList ++ ("loop.example/g01209/laws.FnExact".toList ++ ("PolePower ".toList ++ ("loop.example/g01209/laws.FnExact".toList ++ ("IsLeastPole ".toList ++ ("loop.example/g01209/laws.FnExact".toList ++ ("PoleResult ".toList ++ ("loop.example/g01209/laws.FnExact".toList ++ ("LeastPole".toList))))))))))))))))) := by rw [hL]; simp only [String.toList_append]
theorem hW : wordsSigns Try.prog.initOrder.toList = W := by rw [hT]; kernel_rfl
theorem hB : behindMainWord (wordsSigns Try.prog.initOrder.toList) = W.drop 2 := by rw [hW]; kernel_rfl
theorem hC : behindMainWord (wordsSigns Try.prog.initOrder.toList) = "cut".toList :: W.drop 3 := hB
theorem strip_cut (rest : List (List Char)) : stripLifts liftWords ("cut".toList :: rest) = ([], "cut".toList :: rest) := rfl
theorem make_cut (P : Program) (rest : List (List Char)) (h : behindMainWord (wordsSigns P.initOrder.toList) = "cut".toList :: rest) : P.make = some .cut := by
  unfold Program.make
  rw [h]
  rfl
theorem head_cut (P : Program) (rest : List (List Char)) (h : behindMainWord (wordsSigns P.initOrder.toList) = "cut".toList :: rest) : P.headLifts = [] := by
  unfold Program.headLifts
  rw [h, strip_cut]
  rfl
theorem final_cut (P : Program) (rest : List (List Char)) (h : behindMainWord (wordsSigns P.initOrder.toList) = "cut".toList :: rest) : P.liftsFinal = false := by
  unfold Program.liftsFinal
  rw [head_cut P rest h, h]
  rfl
theorem enter_cut (P : Program) (rest : List (List Char)) (h : behindMainWord (wordsSigns P.initOrder.toList) = "cut".toList :: rest) (h1 : P.laysLater = false) (h2 : P.bearsReflect = false) (h3 : P.doorFits [] = true) : P.mayEnter = true := by
  unfold Program.mayEnter
  rw [h]
  simp only [strip_cut, h1, h2, h3]
  rfl
theorem c1 : (laidOutB Try.prog) = true := by kernel_rfl
theorem c2 : (mapsRowed Try.prog) = true := by kernel_rfl
theorem c5 : ((Rows.fnExactBelowPoleRow.stops == [])) = true := by kernel_rfl
theorem c6 : ((Try.prog.stops == [])) = true := by kernel_rfl
theorem c7 : ((Rows.fnExactBelowPoleRow.knobs == [])) = true := by kernel_rfl
theorem c8 : ((Try.prog.stopKnobs == [])) = true := by kernel_rfl
theorem c22 : ((Rows.fnExactBelowPoleRow.plainKeys == Try.prog.plainKeys)) = true := by kernel_rfl
theorem c23 : (Rows.fnExactBelowPoleRow.shortTexts.isNone) = true := by kernel_rfl
theorem c24 : (Try.prog.stopsHeard) = true := by kernel_rfl
theorem c25 : (Try.prog.mayEnter) = true := enter_cut _ _ hC (by kernel_rfl) (by kernel_rfl) (by kernel_rfl)
theorem c26 : ((Rows.fnExactBelowPoleRow.lifted == Try.prog.liftsFinal)) = true := by rw [final_cut _ _ hC]; rfl
theorem c27 : ((Try.prog.make == some Rows.fnExactBelowPoleRow.make)) = true := by rw [make_cut _ _ hC]; rfl
theorem own : ownKnob Try.prog.godebug = none := by kernel_rfl
theorem laidOut : laidOutB Try.prog = true := c1
end Go.Proofs.Ytgjamcfnpofbhaa.Closed
