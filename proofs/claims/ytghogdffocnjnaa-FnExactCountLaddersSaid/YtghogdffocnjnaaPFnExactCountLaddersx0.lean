-- PRINTED BY print.sh 35421559b90ae4d0a3588c463048766b98c2df88dd9212a6774a882060cdf62d: not written by this session
import Derived.Test.YtghogdffocnjnaaProg
import Derived.Below
import Derived.Deep.Draws
import Derived.Deep.AppendLies
import Derived.Maps.AppendAt
import Derived.OwnWalk
import Derived.Laws.BytesArg
import Derived.Laws.MakeOwn
import Derived.Laws.OwnMore
import Derived.Deep.OwnRows
import Derived.Tactics
import Derived.Lib.ConvBytes
import Derived.Laws.Slices
import Derived.WalkKit
import Derived.KernelRfl
import Derived.RowKit3
import Derived.Deep.LoopGhost
import Derived.Deep.QuietTactic
import Derived.BigQuiet
import Derived.WideLaws
import Derived.Deep.DeepCutAuto
import Derived.Deep.CutBlock
import Derived.Deep.RegionHeld3
import Derived.Laws.Rows
import Derived.Lib.AppendStr
import Derived.ArgAppend
import Derived.Laws.IdiomCopy
import Derived.OrdersHeld
import Derived.Laws.BitsLemmas
import Derived.RowKit
import Derived.Test.YtghogdffocnjnaaWWords
import Derived.Test.YtghogdffocnjnaaWLast
import Derived.Test.YtghogdffocnjnaaWTab
import Derived.Test.YtghogdffocnjnaaWFour
import Derived.Test.YtghogdffocnjnaaWQPut
import Derived.Test.YtghogdffocnjnaaWApart
import Derived.Test.YtghogdffocnjnaaWArr
import Derived.Test.YtghogdffocnjnaaWZeros
import Derived.Test.YtghogdffocnjnaaWFoot
import Derived.Test.YtghogdffocnjnaaWKept
import Derived.Test.YtghogdffocnjnaaWShare
import Derived.Test.YtghogdffocnjnaaWN
import Derived.Test.YtghogdffocnjnaaWFootNe
import Derived.Test.YtghogdffocnjnaaWAt
import Derived.Test.YtghogdffocnjnaaWEqStruct
import Derived.Test.YtghogdffocnjnaaWRepsOne
import Derived.Test.YtghogdffocnjnaaWInv
import Derived.Test.YtghogdffocnjnaaWInvWords
import Derived.Test.YtghogdffocnjnaaWGuard
import Derived.Test.YtghogdffocnjnaaWNEv
import Derived.Test.YtghogdffocnjnaaWMore
namespace Go.Proofs.Ytghogdffocnjnaa.PFnExactCountLadders
open Go.RowKit Go.Proofs.YtghogdffocnjnaaW.PrintWords Go.Proofs.YtghogdffocnjnaaW.PrintLast Go.Proofs.YtghogdffocnjnaaW.PrintMore
attribute [local go_sem] max2_int min2_int max_two min_two max_three min_three max_four min_four   -- for this text's walks alone
set_option linter.unusedVariables false
set_option linter.unusedSimpArgs false



def errW : Option Int → Value
  | none => .nilIface
  | some c => .iface 0 (.int .i64 c)
theorem errW_none : errW none = .nilIface := rfl
theorem errW_some (c : Int) : errW (some c) = .iface 0 (.int .i64 c) := rfl

-- the values' own types

end Go.Proofs.Ytghogdffocnjnaa.PFnExactCountLadders
