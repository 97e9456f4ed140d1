/- Contracts of functions that the law FnExactSpanDiv reaches, over the seat's program: each says what one call returns. The lines are the kit's print (print.sh), laid anew as texts of this session's own, since one printed branch does not build. -/
import Derived.Test.YtanmfmfifhcbkaaProg
import Derived.Below
import Derived.Deep.Draws
import Derived.Deep.AppendLies
import Derived.Maps.AppendAt
import Derived.OwnWalk
import Derived.Laws.BytesArg
import Derived.Laws.MakeOwn
import Derived.Laws.OwnMore
import Derived.Deep.OwnRows
import Derived.Tactics
import Derived.Lib.ConvBytes
import Derived.Laws.Slices
import Derived.WalkKit
import Derived.KernelRfl
import Derived.RowKit3
import Derived.Deep.LoopGhost
import Derived.Deep.QuietTactic
import Derived.BigQuiet
import Derived.WideLaws
import Derived.Deep.DeepCutAuto
import Derived.Deep.CutBlock
import Derived.Deep.RegionHeld3
import Derived.Laws.Rows
import Derived.Lib.AppendStr
import Derived.ArgAppend
import Derived.Laws.IdiomCopy
import Derived.OrdersHeld
import Derived.Laws.BitsLemmas
import Derived.RowKit
import Derived.Test.YtanmfmfifhcbkaaWWords
import Derived.Test.YtanmfmfifhcbkaaWLast
import Derived.Test.YtanmfmfifhcbkaaWTab
import Derived.Test.YtanmfmfifhcbkaaWFour
import Derived.Test.YtanmfmfifhcbkaaWQPut
import Derived.Test.YtanmfmfifhcbkaaWApart
import Derived.Test.YtanmfmfifhcbkaaWArr
import Derived.Test.YtanmfmfifhcbkaaWZeros
import Derived.Test.YtanmfmfifhcbkaaWFoot
import Derived.Test.YtanmfmfifhcbkaaWKept
import Derived.Test.YtanmfmfifhcbkaaWShare
import Derived.Test.YtanmfmfifhcbkaaWN
import Derived.Test.YtanmfmfifhcbkaaWFootNe
import Derived.Test.YtanmfmfifhcbkaaWAt
import Derived.Test.YtanmfmfifhcbkaaWEqStruct
import Derived.Test.YtanmfmfifhcbkaaWRepsOne
import Derived.Test.YtanmfmfifhcbkaaWInv
import Derived.Test.YtanmfmfifhcbkaaWInvWords
import Derived.Test.YtanmfmfifhcbkaaWGuard
import Derived.Test.YtanmfmfifhcbkaaWNEv
import Derived.Test.YtanmfmfifhcbkaaWMore
namespace Go.Proofs.Ytanmfmfifhcbkaa.PFnExactSpanDiv
open Go.RowKit Go.Proofs.YtanmfmfifhcbkaaW.PrintWords Go.Proofs.YtanmfmfifhcbkaaW.PrintLast Go.Proofs.YtanmfmfifhcbkaaW.PrintMore
attribute [local go_sem] max2_int min2_int max_two min_two max_three min_three max_four min_four   -- for this text's walks alone
set_option linter.unusedVariables false
set_option linter.unusedSimpArgs false



def errW : Option Int → Value
  | none => .nilIface
  | some c => .iface 0 (.int .i64 c)
theorem errW_none : errW none = .nilIface := rfl
theorem errW_some (c : Int) : errW (some c) = .iface 0 (.int .i64 c) := rfl

-- the values' own types

end Go.Proofs.Ytanmfmfifhcbkaa.PFnExactSpanDiv
