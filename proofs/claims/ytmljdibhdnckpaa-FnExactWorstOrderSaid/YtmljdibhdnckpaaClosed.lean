/- The closed facts of this seat's program that every row asks, each run by the kernel as a theorem of its own. No condition. -/
import Derived.Test.YtmljdibhdnckpaaRows
import Derived.Test.YtmljdibhdnckpaaChecked
import Derived.JoinedOf
import Derived.WalkKit
namespace Go.Proofs.Ytmljdibhdnckpaa.Closed
def W : List (List Char) := ["harness".toList, "73f2d4bb4bbb14ed42ab926deffd1ddc54d773010d1d888777bb17fb73ed9442".toList, "cut".toList, "at".toList, "loop.example/g01209/laws.FnExactLeastSorting".toList, "loop.example/g01209/laws.FnExactBubbleLadder".toList, "loop.example/g01209/laws.FnExactPassesOf".toList, "loop.example/g01209/laws.FnExactOddEvenLadder".toList, "loop.example/g01209/laws.FnExactExchangesOf".toList, "loop.example/g01209/laws.FnExactSortedBy".toList, "loop.example/g01209/laws.FnExactCountBitsSorted".toList, "loop.example/g01209/laws.FnExactIsSorting".toList, "loop.example/g01209/laws.FnExactIdleRungs".toList, "loop.example/g01209/laws.FnExactLeastBeginning".toList, "loop.example/g01209/laws.FnExactFirstBitsUnsorted".toList, "loop.example/g01209/laws.FnExactDropIdle".toList, "loop.example/g01209/laws.FnExactWorstOrder".toList, "loop.example/g01209/laws.FnExactCountSorted".toList, "loop.example/g01209/laws.FnExactFirstUnsorted".toList, "loop.example/g01209/laws.FnExactSortsFirst".toList]
theorem hL : Try.prog.initOrder = "harness " ++ ("73f2d4bb4bbb14ed42ab926deffd1ddc" ++ ("54d773010d1d888777bb17fb73ed9442" ++ (" " ++ ("cut " ++ ("at " ++ ("loop.example/g01209/laws.FnExact" ++ ("LeastSorting " ++ ("loop.example/g01209/laws.FnExact" ++ ("BubbleLadder " ++ ("loop.example/g01209/laws.FnExact" ++ ("PassesOf " ++ ("loop.example/g01209/laws.FnExact" ++ ("OddEvenLadder " ++ ("loop.example/g01209/laws.FnExact" ++ ("ExchangesOf " ++ ("loop.example/g01209/laws.FnExact" ++ ("SortedBy " ++ ("loop.example/g01209/laws.FnExact" ++ ("CountBitsSorted " ++ ("loop.example/g01209/laws.FnExact" ++ ("IsSorting " ++ ("loop.example/g01209/laws.FnExact" ++ ("IdleRungs " ++ ("loop.example/g01209/laws.FnExact" ++ ("LeastBeginning " ++ ("loop.example/g01209/laws.FnExact" ++ ("FirstBitsUnsorted " ++ ("loop.example/g01209/laws.FnExact" ++ ("DropIdle " ++ ("loop.example/g01209/laws.FnExact" ++ ("WorstOrder " ++ ("loop.example/g01209/laws.FnExact" ++ ("CountSorted " ++ ("loop.example/g01209/laws.FnExact" ++ ("FirstUnsorted " ++ ("loop.example/g01209/laws.FnExact" ++ ("SortsFirst"))))))))))))))))))))))))))))))))))))) := by kernel_rfl
theorem hT : Try.prog.initOrder.toList = "harness ".toList ++ ("73f2d4bb4bbb14ed42ab926deffd1ddc".toList ++ ("54d773010d1d888777bb17fb73ed9442".toList ++ (" ".toList ++ ("cut ".toList ++ ("at ".toList ++ ("loop.example/g01209/laws.FnExact".toList ++ ("LeastSorting ".toList ++ ("loop.example/g01209/laws.FnExact".toList ++ ("BubbleLadder ".toList ++ ("loop.example/g01209/laws.FnExact".toList ++ ("PassesOf ".toList ++ ("loop.example/g01209/laws.FnExact".toList ++ ("OddEvenLadder ".toList ++ ("loop.example/g01209/laws.FnExact".toList ++ ("ExchangesOf ".toList ++ ("loop.example/g01209/laws.FnExact".toList ++ ("SortedBy ".toList ++ ("loop.example/g01209/laws.FnExact".toList ++ ("CountBitsSorted ".toList ++ ("loop.example/g01209/laws.FnExact".toList ++ ("IsSorting ".toList ++ ("loop.example/g01209/laws.FnExact".toList ++ ("IdleRungs ".toList ++ ("loop.example/g01209/laws.FnExact".toList ++ ("LeastBeginning ".toList ++ ("loop.example/g01209/laws.FnExact".toList ++ ("FirstBitsUnsorted ".toList ++ ("loop.example/g01209/laws.FnExact".toList ++ ("DropIdle ".toList ++ ("loop.example/g01209/laws.FnExact".toList ++ ("WorstOrder ".toList ++ ("loop.example/g01209/laws.FnExact".toList ++ ("CountSorted ".toList ++ ("loop.example/g01209/laws.FnExact".toList ++ ("FirstUnsorted ".toList ++ ("loop.example/g01209/laws.FnExact".toList ++ ("SortsFirst".toList))))))))))))))))))))))))))))))))))))) := by rw [hL]; simp only [String.toList_append]
theorem hW : wordsSigns Try.prog.initOrder.toList = W := by rw [hT]; kernel_rfl
theorem hB : behindMainWord (wordsSigns Try.prog.initOrder.toList) = W.drop 2 := by rw [hW]; kernel_rfl
theorem hC : behindMainWord (wordsSigns Try.prog.initOrder.toList) = "cut".toList :: W.drop 3 := hB
theorem strip_cut (rest : List (List Char)) : stripLifts liftWords ("cut".toList :: rest) = ([], "cut".toList :: rest) := rfl
theorem make_cut (P : Program) (rest : List (List Char)) (h : behindMainWord (wordsSigns P.initOrder.toList) = "cut".toList :: rest) : P.make = some .cut := by
  unfold Program.make
  rw [h]
  rfl
theorem head_cut (P : Program) (rest : List (List Char)) (h : behindMainWord (wordsSigns P.initOrder.toList) = "cut".toList :: rest) : P.headLifts = [] := by
  unfold Program.headLifts
  rw [h, strip_cut]
  rfl
theorem final_cut (P : Program) (rest : List (List Char)) (h : behindMainWord (wordsSigns P.initOrder.toList) = "cut".toList :: rest) : P.liftsFinal = false := by
  unfold Program.liftsFinal
  rw [head_cut P rest h, h]
  rfl
theorem enter_cut (P : Program) (rest : List (List Char)) (h : behindMainWord (wordsSigns P.initOrder.toList) = "cut".toList :: rest) (h1 : P.laysLater = false) (h2 : P.bearsReflect = false) (h3 : P.doorFits [] = true) : P.mayEnter = true := by
  unfold Program.mayEnter
  rw [h]
  simp only [strip_cut, h1, h2, h3]
  rfl
theorem c1 : (laidOutB Try.prog) = true := by kernel_rfl
theorem c2 : (mapsRowed Try.prog) = true := by kernel_rfl
theorem c5 : ((Rows.fnExactLeastSortingRow.stops == [])) = true := by kernel_rfl
theorem c6 : ((Try.prog.stops == [])) = true := by kernel_rfl
theorem c7 : ((Rows.fnExactLeastSortingRow.knobs == [])) = true := by kernel_rfl
theorem c8 : ((Try.prog.stopKnobs == [])) = true := by kernel_rfl
theorem c22 : ((Rows.fnExactLeastSortingRow.plainKeys == Try.prog.plainKeys)) = true := by kernel_rfl
theorem c23 : (Rows.fnExactLeastSortingRow.shortTexts.isNone) = true := by kernel_rfl
theorem c24 : (Try.prog.stopsHeard) = true := by kernel_rfl
theorem c25 : (Try.prog.mayEnter) = true := enter_cut _ _ hC (by kernel_rfl) (by kernel_rfl) (by kernel_rfl)
theorem c26 : ((Rows.fnExactLeastSortingRow.lifted == Try.prog.liftsFinal)) = true := by rw [final_cut _ _ hC]; rfl
theorem c27 : ((Try.prog.make == some Rows.fnExactLeastSortingRow.make)) = true := by rw [make_cut _ _ hC]; rfl
theorem own : ownKnob Try.prog.godebug = none := by kernel_rfl
theorem laidOut : laidOutB Try.prog = true := c1
end Go.Proofs.Ytmljdibhdnckpaa.Closed
