/- The closed facts of this seat's program that every row asks, each run by the kernel as a theorem of its own. No condition. -/
import Derived.Test.YtnagcjhgojchlaaRows
import Derived.Test.YtnagcjhgojchlaaChecked
import Derived.JoinedOf
import Derived.WalkKit
namespace Go.Proofs.Ytnagcjhgojchlaa.Closed
def W:List (List Char):= ["harness".toList, "a6f722f40001efe63e8f96fa75faf5b63fb2f7e1db97e6d13226f28f810c34f5".toList, "cut".toList, "at".toList, "loop.example/g01209/laws.FnPolesLeast".toList]
theorem hL:Try.prog.initOrder= "harness " ++("a6f722f40001efe63e8f96fa75faf5b6" ++("3fb2f7e1db97e6d13226f28f810c34f5" ++(" " ++("cut " ++("at " ++("loop.example/g01209/laws.FnPoles" ++("Least"))))))):=by kernel_rfl
theorem hT:Try.prog.initOrder.toList= "harness ".toList++("a6f722f40001efe63e8f96fa75faf5b6".toList++("3fb2f7e1db97e6d13226f28f810c34f5".toList++(" ".toList++("cut ".toList++("at ".toList++("loop.example/g01209/laws.FnPoles".toList++("Least".toList))))))):=by rw[hL];simp only[String.toList_append]
theorem hW:wordsSigns Try.prog.initOrder.toList=W:=by rw[hT];kernel_rfl
theorem hB:behindMainWord (wordsSigns Try.prog.initOrder.toList)=W.drop 2:=by rw[hW];kernel_rfl
theorem hC:behindMainWord (wordsSigns Try.prog.initOrder.toList)= "cut".toList::W.drop 3:=hB
theorem strip_cut (rest:List (List Char)):stripLifts liftWords ("cut".toList::rest)=([], "cut".toList::rest):=rfl
theorem make_cut (P:Program) (rest:List (List Char)) (h:behindMainWord (wordsSigns P.initOrder.toList)= "cut".toList::rest):P.make=some .cut:=by
  unfold Program.make
  rw[h]
  rfl
theorem head_cut (P:Program) (rest:List (List Char)) (h:behindMainWord (wordsSigns P.initOrder.toList)= "cut".toList::rest):P.headLifts= []:=by
  unfold Program.headLifts
  rw[h,strip_cut]
  rfl
theorem final_cut (P:Program) (rest:List (List Char)) (h:behindMainWord (wordsSigns P.initOrder.toList)= "cut".toList::rest):P.liftsFinal=false:=by
  unfold Program.liftsFinal
  rw[head_cut P rest h,h]
  rfl
theorem enter_cut (P:Program) (rest:List (List Char)) (h:behindMainWord (wordsSigns P.initOrder.toList)= "cut".toList::rest) (h1:P.laysLater=false) (h2:P.bearsReflect=false) (h3:P.doorFits []=true):P.mayEnter=true:=by
  unfold Program.mayEnter
  rw[h]
  simp only[strip_cut,h1,h2,h3]
  rfl
theorem c1:(laidOutB Try.prog)=true:=by kernel_rfl
theorem c2:(mapsRowed Try.prog)=true:=by kernel_rfl
theorem c5:((Rows.fnPolesLeastRow.stops == []))=true:=by kernel_rfl
theorem c6:((Try.prog.stops == []))=true:=by kernel_rfl
theorem c7:((Rows.fnPolesLeastRow.knobs == []))=true:=by kernel_rfl
theorem c8:((Try.prog.stopKnobs == []))=true:=by kernel_rfl
theorem c22:((Rows.fnPolesLeastRow.plainKeys == Try.prog.plainKeys))=true:=by kernel_rfl
theorem c23:(Rows.fnPolesLeastRow.shortTexts.isNone)=true:=by kernel_rfl
theorem c24:(Try.prog.stopsHeard)=true:=by kernel_rfl
theorem c25:(Try.prog.mayEnter)=true:=enter_cut _ _ hC (by kernel_rfl) (by kernel_rfl) (by kernel_rfl)
theorem c26:((Rows.fnPolesLeastRow.lifted == Try.prog.liftsFinal))=true:=by rw[final_cut _ _ hC];rfl
theorem c27:((Try.prog.make == some Rows.fnPolesLeastRow.make))=true:=by rw[make_cut _ _ hC];rfl
theorem own:ownKnob Try.prog.godebug=none:=by kernel_rfl
theorem laidOut:laidOutB Try.prog=true:=c1
end Go.Proofs.Ytnagcjhgojchlaa.Closed
