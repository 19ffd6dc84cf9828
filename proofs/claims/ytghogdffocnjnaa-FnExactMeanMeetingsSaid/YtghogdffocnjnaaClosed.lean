/- The closed facts of this seat's program that every row asks, each run by the kernel as a theorem of its own. No condition. -/
import Derived.Test.YtghogdffocnjnaaRows
import Derived.Test.YtghogdffocnjnaaChecked
import Derived.JoinedOf
import Derived.WalkKit
namespace Go.Proofs.Ytghogdffocnjnaa.Closed
def W : List (List Char) := ["harness".toList, "03f246f43d2f51f75b82929605aa81d915be4976fdbf4d49b6a92186142f4098".toList, "cut".toList, "at".toList, "loop.example/g01209/laws.FnExactCountLadders".toList, "loop.example/g01209/laws.FnExactCountEnds".toList, "loop.example/g01209/laws.FnExactFirstAll".toList, "loop.example/g01209/laws.FnExactMeanAtHome".toList, "loop.example/g01209/laws.FnExactChanceOf".toList, "loop.example/g01209/laws.FnExactMeanMeetings".toList, "loop.example/g01209/laws.FnExactGapOf".toList, "loop.example/g01209/laws.FnExactChancesFrom".toList, "loop.example/g01209/laws.FnExactCountOrdersMade".toList, "loop.example/g01209/laws.FnExactCountForOrder".toList, "loop.example/g01209/laws.FnExactMeanInversions".toList, "loop.example/g01209/laws.FnExactLikeliestOrder".toList, "loop.example/g01209/laws.FnExactChanceOfOrder".toList]
theorem hL : Try.prog.initOrder = "harness " ++ ("03f246f43d2f51f75b82929605aa81d9" ++ ("15be4976fdbf4d49b6a92186142f4098" ++ (" " ++ ("cut " ++ ("at " ++ ("loop.example/g01209/laws.FnExact" ++ ("CountLadders " ++ ("loop.example/g01209/laws.FnExact" ++ ("CountEnds " ++ ("loop.example/g01209/laws.FnExact" ++ ("FirstAll " ++ ("loop.example/g01209/laws.FnExact" ++ ("MeanAtHome " ++ ("loop.example/g01209/laws.FnExact" ++ ("ChanceOf " ++ ("loop.example/g01209/laws.FnExact" ++ ("MeanMeetings " ++ ("loop.example/g01209/laws.FnExact" ++ ("GapOf " ++ ("loop.example/g01209/laws.FnExact" ++ ("ChancesFrom " ++ ("loop.example/g01209/laws.FnExact" ++ ("CountOrdersMade " ++ ("loop.example/g01209/laws.FnExact" ++ ("CountForOrder " ++ ("loop.example/g01209/laws.FnExact" ++ ("MeanInversions " ++ ("loop.example/g01209/laws.FnExact" ++ ("LikeliestOrder " ++ ("loop.example/g01209/laws.FnExact" ++ ("ChanceOfOrder"))))))))))))))))))))))))))))))) := by kernel_rfl
theorem hT : Try.prog.initOrder.toList = "harness ".toList ++ ("03f246f43d2f51f75b82929605aa81d9".toList ++ ("15be4976fdbf4d49b6a92186142f4098".toList ++ (" ".toList ++ ("cut ".toList ++ ("at ".toList ++ ("loop.example/g01209/laws.FnExact".toList ++ ("CountLadders ".toList ++ ("loop.example/g01209/laws.FnExact".toList ++ ("CountEnds ".toList ++ ("loop.example/g01209/laws.FnExact".toList ++ ("FirstAll ".toList ++ ("loop.example/g01209/laws.FnExact".toList ++ ("MeanAtHome ".toList ++ ("loop.example/g01209/laws.FnExact".toList ++ ("ChanceOf ".toList ++ ("loop.example/g01209/laws.FnExact".toList ++ ("MeanMeetings ".toList ++ ("loop.example/g01209/laws.FnExact".toList ++ ("GapOf ".toList ++ ("loop.example/g01209/laws.FnExact".toList ++ ("ChancesFrom ".toList ++ ("loop.example/g01209/laws.FnExact".toList ++ ("CountOrdersMade ".toList ++ ("loop.example/g01209/laws.FnExact".toList ++ ("CountForOrder ".toList ++ ("loop.example/g01209/laws.FnExact".toList ++ ("MeanInversions ".toList ++ ("loop.example/g01209/laws.FnExact".toList ++ ("LikeliestOrder ".toList ++ ("loop.example/g01209/laws.FnExact".toList ++ ("ChanceOfOrder".toList))))))))))))))))))))))))))))))) := by rw [hL]; simp only [String.toList_append]
theorem hW : wordsSigns Try.prog.initOrder.toList = W := by rw [hT]; kernel_rfl
theorem hB : behindMainWord (wordsSigns Try.prog.initOrder.toList) = W.drop 2 := by rw [hW]; kernel_rfl
theorem hC : behindMainWord (wordsSigns Try.prog.initOrder.toList) = "cut".toList :: W.drop 3 := hB
theorem strip_cut (rest : List (List Char)) : stripLifts liftWords ("cut".toList :: rest) = ([], "cut".toList :: rest) := rfl
theorem make_cut (P : Program) (rest : List (List Char)) (h : behindMainWord (wordsSigns P.initOrder.toList) = "cut".toList :: rest) : P.make = some .cut := by
  unfold Program.make
  rw [h]
  rfl
theorem head_cut (P : Program) (rest : List (List Char)) (h : behindMainWord (wordsSigns P.initOrder.toList) = "cut".toList :: rest) : P.headLifts = [] := by
  unfold Program.headLifts
  rw [h, strip_cut]
  rfl
theorem final_cut (P : Program) (rest : List (List Char)) (h : behindMainWord (wordsSigns P.initOrder.toList) = "cut".toList :: rest) : P.liftsFinal = false := by
  unfold Program.liftsFinal
  rw [head_cut P rest h, h]
  rfl
theorem enter_cut (P : Program) (rest : List (List Char)) (h : behindMainWord (wordsSigns P.initOrder.toList) = "cut".toList :: rest) (h1 : P.laysLater = false) (h2 : P.bearsReflect = false) (h3 : P.doorFits [] = true) : P.mayEnter = true := by
  unfold Program.mayEnter
  rw [h]
  simp only [strip_cut, h1, h2, h3]
  rfl
theorem c1 : (laidOutB Try.prog) = true := by kernel_rfl
theorem c2 : (mapsRowed Try.prog) = true := by kernel_rfl
theorem c5 : ((Rows.fnExactCountLaddersRow.stops == [])) = true := by kernel_rfl
theorem c6 : ((Try.prog.stops == [])) = true := by kernel_rfl
theorem c7 : ((Rows.fnExactCountLaddersRow.knobs == [])) = true := by kernel_rfl
theorem c8 : ((Try.prog.stopKnobs == [])) = true := by kernel_rfl
theorem c22 : ((Rows.fnExactCountLaddersRow.plainKeys == Try.prog.plainKeys)) = true := by kernel_rfl
theorem c23 : (Rows.fnExactCountLaddersRow.shortTexts.isNone) = true := by kernel_rfl
theorem c24 : (Try.prog.stopsHeard) = true := by kernel_rfl
theorem c25 : (Try.prog.mayEnter) = true := enter_cut _ _ hC (by kernel_rfl) (by kernel_rfl) (by kernel_rfl)
theorem c26 : ((Rows.fnExactCountLaddersRow.lifted == Try.prog.liftsFinal)) = true := by rw [final_cut _ _ hC]; rfl
theorem c27 : ((Try.prog.make == some Rows.fnExactCountLaddersRow.make)) = true := by rw [make_cut _ _ hC]; rfl
theorem own : ownKnob Try.prog.godebug = none := by kernel_rfl
theorem laidOut : laidOutB Try.prog = true := c1
end Go.Proofs.Ytghogdffocnjnaa.Closed
