/- The closed facts of this seat's program that every row asks, each run by the kernel as a theorem of its own. No condition. -/
import Derived.Test.YtgjamcfnpofbhaaDoorRows
import Derived.Test.YtgjamcfnpofbhaaDoorChecked
import Derived.JoinedOf
import Derived.WalkKit
namespace Go.Proofs.YtgjamcfnpofbhaaDoor.Closed
def W : List (List Char) := ["harness".toList, "63b83167934802fd0ad998f70331fb359ace81da629791a5f3eb7d0a390bda37".toList, "cut".toList, "at".toList, "loop.example/g01209/laws.FnExactPoleText".toList]
theorem hL : Tryd.prog.initOrder = "harness " ++ ("63b83167934802fd0ad998f70331fb35" ++ ("9ace81da629791a5f3eb7d0a390bda37" ++ (" " ++ ("cut " ++ ("at " ++ ("loop.example/g01209/laws.FnExact" ++ ("PoleText"))))))) := by kernel_rfl
theorem hT : Tryd.prog.initOrder.toList = "harness ".toList ++ ("63b83167934802fd0ad998f70331fb35".toList ++ ("9ace81da629791a5f3eb7d0a390bda37".toList ++ (" ".toList ++ ("cut ".toList ++ ("at ".toList ++ ("loop.example/g01209/laws.FnExact".toList ++ ("PoleText".toList))))))) := by rw [hL]; simp only [String.toList_append]
theorem hW : wordsSigns Tryd.prog.initOrder.toList = W := by rw [hT]; kernel_rfl
theorem hB : behindMainWord (wordsSigns Tryd.prog.initOrder.toList) = W.drop 2 := by rw [hW]; kernel_rfl
theorem hC : behindMainWord (wordsSigns Tryd.prog.initOrder.toList) = "cut".toList :: W.drop 3 := hB
theorem strip_cut (rest : List (List Char)) : stripLifts liftWords ("cut".toList :: rest) = ([], "cut".toList :: rest) := rfl
theorem make_cut (P : Program) (rest : List (List Char)) (h : behindMainWord (wordsSigns P.initOrder.toList) = "cut".toList :: rest) : P.make = some .cut := by
  unfold Program.make
  rw [h]
  rfl
theorem head_cut (P : Program) (rest : List (List Char)) (h : behindMainWord (wordsSigns P.initOrder.toList) = "cut".toList :: rest) : P.headLifts = [] := by
  unfold Program.headLifts
  rw [h, strip_cut]
  rfl
theorem final_cut (P : Program) (rest : List (List Char)) (h : behindMainWord (wordsSigns P.initOrder.toList) = "cut".toList :: rest) : P.liftsFinal = false := by
  unfold Program.liftsFinal
  rw [head_cut P rest h, h]
  rfl
theorem enter_cut (P : Program) (rest : List (List Char)) (h : behindMainWord (wordsSigns P.initOrder.toList) = "cut".toList :: rest) (h1 : P.laysLater = false) (h2 : P.bearsReflect = false) (h3 : P.doorFits [] = true) : P.mayEnter = true := by
  unfold Program.mayEnter
  rw [h]
  simp only [strip_cut, h1, h2, h3]
  rfl
theorem c1 : (laidOutB Tryd.prog) = true := by kernel_rfl
theorem c2 : (mapsRowed Tryd.prog) = true := by kernel_rfl
theorem c5 : ((Rows.fnExactPoleTextRow.stops == [])) = true := by kernel_rfl
theorem c6 : ((Tryd.prog.stops == [])) = true := by kernel_rfl
theorem c7 : ((Rows.fnExactPoleTextRow.knobs == [])) = true := by kernel_rfl
theorem c8 : ((Tryd.prog.stopKnobs == [])) = true := by kernel_rfl
theorem c22 : ((Rows.fnExactPoleTextRow.plainKeys == Tryd.prog.plainKeys)) = true := by kernel_rfl
theorem c23 : (Rows.fnExactPoleTextRow.shortTexts.isNone) = true := by kernel_rfl
theorem c24 : (Tryd.prog.stopsHeard) = true := by kernel_rfl
theorem c25 : (Tryd.prog.mayEnter) = true := enter_cut _ _ hC (by kernel_rfl) (by kernel_rfl) (by kernel_rfl)
theorem c26 : ((Rows.fnExactPoleTextRow.lifted == Tryd.prog.liftsFinal)) = true := by rw [final_cut _ _ hC]; rfl
theorem c27 : ((Tryd.prog.make == some Rows.fnExactPoleTextRow.make)) = true := by rw [make_cut _ _ hC]; rfl
theorem own : ownKnob Tryd.prog.godebug = none := by kernel_rfl
theorem laidOut : laidOutB Tryd.prog = true := c1
end Go.Proofs.YtgjamcfnpofbhaaDoor.Closed
