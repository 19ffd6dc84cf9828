/- The closed facts of this seat's program that every row asks, each run by the kernel as a theorem of its own. No condition. -/
import Derived.Test.YtddfakhlncihoaaRows
import Derived.Test.YtddfakhlncihoaaChecked
import Derived.JoinedOf
import Derived.WalkKit
namespace Go.Proofs.Ytddfakhlncihoaa.Closed
def W : List (List Char) := ["harness".toList, "2c1bc1d5691074c1df8a84f5160643155f50309eff3d1146e185b98c09735e4c".toList, "cut".toList, "at".toList, "loop.example/g01209/laws.FnExactIsPole".toList, "loop.example/g01209/laws.FnExactSpinPole".toList, "loop.example/g01209/laws.FnExactIsTurned".toList, "loop.example/g01209/laws.FnExactTurnPole".toList, "loop.example/g01209/laws.FnExactPoleEnd".toList, "loop.example/g01209/laws.FnExactPlaceOf".toList, "loop.example/g01209/laws.FnExactBelowPole".toList, "loop.example/g01209/laws.FnExactClosePole".toList, "loop.example/g01209/laws.FnExactOpenPole".toList, "loop.example/g01209/laws.FnExactPoleWay".toList, "loop.example/g01209/laws.FnExactPoleInversions".toList, "loop.example/g01209/laws.FnExactBackTurned".toList, "loop.example/g01209/laws.FnExactPoleDescents".toList, "loop.example/g01209/laws.FnExactThenTurned".toList, "loop.example/g01209/laws.FnExactPolePower".toList, "loop.example/g01209/laws.FnExactIsLeastPole".toList, "loop.example/g01209/laws.FnExactPoleResult".toList, "loop.example/g01209/laws.FnExactLeastPole".toList]
theorem hL : Try.prog.initOrder = "harness " ++ ("2c1bc1d5691074c1df8a84f516064315" ++ ("5f50309eff3d1146e185b98c09735e4c" ++ (" " ++ ("cut " ++ ("at " ++ ("loop.example/g01209/laws.FnExact" ++ ("IsPole " ++ ("loop.example/g01209/laws.FnExact" ++ ("SpinPole " ++ ("loop.example/g01209/laws.FnExact" ++ ("IsTurned " ++ ("loop.example/g01209/laws.FnExact" ++ ("TurnPole " ++ ("loop.example/g01209/laws.FnExact" ++ ("PoleEnd " ++ ("loop.example/g01209/laws.FnExact" ++ ("PlaceOf " ++ ("loop.example/g01209/laws.FnExact" ++ ("BelowPole " ++ ("loop.example/g01209/laws.FnExact" ++ ("ClosePole " ++ ("loop.example/g01209/laws.FnExact" ++ ("OpenPole " ++ ("loop.example/g01209/laws.FnExact" ++ ("PoleWay " ++ ("loop.example/g01209/laws.FnExact" ++ ("PoleInversions " ++ ("loop.example/g01209/laws.FnExact" ++ ("BackTurned " ++ ("loop.example/g01209/laws.FnExact" ++ ("PoleDescents " ++ ("loop.example/g01209/laws.FnExact" ++ ("ThenTurned " ++ ("loop.example/g01209/laws.FnExact" ++ ("PolePower " ++ ("loop.example/g01209/laws.FnExact" ++ ("IsLeastPole " ++ ("loop.example/g01209/laws.FnExact" ++ ("PoleResult " ++ ("loop.example/g01209/laws.FnExact" ++ ("LeastPole"))))))))))))))))))))))))))))))))))))))))) := by kernel_rfl
theorem hT : Try.prog.initOrder.toList = "harness ".toList ++ ("2c1bc1d5691074c1df8a84f516064315".toList ++ ("5f50309eff3d1146e185b98c09735e4c".toList ++ (" ".toList ++ ("cut ".toList ++ ("at ".toList ++ ("loop.example/g01209/laws.FnExact".toList ++ ("IsPole ".toList ++ ("loop.example/g01209/laws.FnExact".toList ++ ("SpinPole ".toList ++ ("loop.example/g01209/laws.FnExact".toList ++ ("IsTurned ".toList ++ ("loop.example/g01209/laws.FnExact".toList ++ ("TurnPole ".toList ++ ("loop.example/g01209/laws.FnExact".toList ++ ("PoleEnd ".toList ++ ("loop.example/g01209/laws.FnExact".toList ++ ("PlaceOf ".toList ++ ("loop.example/g01209/laws.FnExact".toList ++ ("BelowPole ".toList ++ ("loop.example/g01209/laws.FnExact".toList ++ ("ClosePole ".toList ++ ("loop.example/g01209/laws.FnExact".toList ++ ("OpenPole ".toList ++ ("loop.example/g01209/laws.FnExact".toList ++ ("PoleWay ".toList ++ ("loop.example/g01209/laws.FnExact".toList ++ ("PoleInversions ".toList ++ ("loop.example/g01209/laws.FnExact".toList ++ ("BackTurned ".toList ++ ("loop.example/g01209/laws.FnExact".toList ++ ("PoleDescents ".toList ++ ("loop.example/g01209/laws.FnExact".toList ++ ("ThenTurned ".toList ++ ("loop.example/g01209/laws.FnExact".toList ++ ("PolePower ".toList ++ ("loop.example/g01209/laws.FnExact".toList ++ ("IsLeastPole ".toList ++ ("loop.example/g01209/laws.FnExact".toList ++ ("PoleResult ".toList ++ ("loop.example/g01209/laws.FnExact".toList ++ ("LeastPole".toList))))))))))))))))))))))))))))))))))))))))) := by rw [hL]; simp only [String.toList_append]
theorem hW : wordsSigns Try.prog.initOrder.toList = W := by rw [hT]; kernel_rfl
theorem hB : behindMainWord (wordsSigns Try.prog.initOrder.toList) = W.drop 2 := by rw [hW]; kernel_rfl
theorem hC : behindMainWord (wordsSigns Try.prog.initOrder.toList) = "cut".toList :: W.drop 3 := hB
theorem strip_cut (rest : List (List Char)) : stripLifts liftWords ("cut".toList :: rest) = ([], "cut".toList :: rest) := rfl
theorem make_cut (P : Program) (rest : List (List Char)) (h : behindMainWord (wordsSigns P.initOrder.toList) = "cut".toList :: rest) : P.make = some .cut := by
  unfold Program.make
  rw [h]
  rfl
theorem head_cut (P : Program) (rest : List (List Char)) (h : behindMainWord (wordsSigns P.initOrder.toList) = "cut".toList :: rest) : P.headLifts = [] := by
  unfold Program.headLifts
  rw [h, strip_cut]
  rfl
theorem final_cut (P : Program) (rest : List (List Char)) (h : behindMainWord (wordsSigns P.initOrder.toList) = "cut".toList :: rest) : P.liftsFinal = false := by
  unfold Program.liftsFinal
  rw [head_cut P rest h, h]
  rfl
theorem enter_cut (P : Program) (rest : List (List Char)) (h : behindMainWord (wordsSigns P.initOrder.toList) = "cut".toList :: rest) (h1 : P.laysLater = false) (h2 : P.bearsReflect = false) (h3 : P.doorFits [] = true) : P.mayEnter = true := by
  unfold Program.mayEnter
  rw [h]
  simp only [strip_cut, h1, h2, h3]
  rfl
theorem c1 : (laidOutB Try.prog) = true := by kernel_rfl
theorem c2 : (mapsRowed Try.prog) = true := by kernel_rfl
theorem c5 : ((Rows.fnExactIsPoleRow.stops == [])) = true := by kernel_rfl
theorem c6 : ((Try.prog.stops == [])) = true := by kernel_rfl
theorem c7 : ((Rows.fnExactIsPoleRow.knobs == [])) = true := by kernel_rfl
theorem c8 : ((Try.prog.stopKnobs == [])) = true := by kernel_rfl
theorem c22 : ((Rows.fnExactIsPoleRow.plainKeys == Try.prog.plainKeys)) = true := by kernel_rfl
theorem c23 : (Rows.fnExactIsPoleRow.shortTexts.isNone) = true := by kernel_rfl
theorem c24 : (Try.prog.stopsHeard) = true := by kernel_rfl
theorem c25 : (Try.prog.mayEnter) = true := enter_cut _ _ hC (by kernel_rfl) (by kernel_rfl) (by kernel_rfl)
theorem c26 : ((Rows.fnExactIsPoleRow.lifted == Try.prog.liftsFinal)) = true := by rw [final_cut _ _ hC]; rfl
theorem c27 : ((Try.prog.make == some Rows.fnExactIsPoleRow.make)) = true := by rw [make_cut _ _ hC]; rfl
theorem own : ownKnob Try.prog.godebug = none := by kernel_rfl
theorem laidOut : laidOutB Try.prog = true := c1
end Go.Proofs.Ytddfakhlncihoaa.Closed
