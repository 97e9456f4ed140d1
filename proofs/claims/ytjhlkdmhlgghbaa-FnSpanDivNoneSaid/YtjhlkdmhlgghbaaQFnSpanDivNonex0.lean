/- Contracts of functions that the law FnSpanDivNone reaches, over the seat's program: each says what one call returns. The lines are the kit's print (print.sh), laid anew as texts of this session's own, since one printed branch does not build. -/
import Derived.Test.YtjhlkdmhlgghbaaProg
import Derived.Below
import Derived.Deep.Draws
import Derived.Deep.AppendLies
import Derived.Maps.AppendAt
import Derived.OwnWalk
import Derived.Laws.BytesArg
import Derived.Laws.MakeOwn
import Derived.Laws.OwnMore
import Derived.Deep.OwnRows
import Derived.Tactics
import Derived.Lib.ConvBytes
import Derived.Laws.Slices
import Derived.WalkKit
import Derived.KernelRfl
import Derived.RowKit3
import Derived.Deep.LoopGhost
import Derived.Deep.QuietTactic
import Derived.BigQuiet
import Derived.WideLaws
import Derived.Deep.DeepCutAuto
import Derived.Deep.CutBlock
import Derived.Deep.RegionHeld3
import Derived.Laws.Rows
import Derived.Lib.AppendStr
import Derived.ArgAppend
import Derived.Laws.IdiomCopy
import Derived.OrdersHeld
import Derived.Laws.BitsLemmas
import Derived.RowKit
import Derived.Test.YtjhlkdmhlgghbaaWWords
import Derived.Test.YtjhlkdmhlgghbaaWLast
import Derived.Test.YtjhlkdmhlgghbaaWTab
import Derived.Test.YtjhlkdmhlgghbaaWQPut
import Derived.Test.YtjhlkdmhlgghbaaWApart
import Derived.Test.YtjhlkdmhlgghbaaWArr
import Derived.Test.YtjhlkdmhlgghbaaWZeros
import Derived.Test.YtjhlkdmhlgghbaaWFoot
import Derived.Test.YtjhlkdmhlgghbaaWKept
import Derived.Test.YtjhlkdmhlgghbaaWShare
import Derived.Test.YtjhlkdmhlgghbaaWN
import Derived.Test.YtjhlkdmhlgghbaaWEqStruct
import Derived.Test.YtjhlkdmhlgghbaaWNEv
import Derived.Test.YtjhlkdmhlgghbaaWMore
namespace Go.Proofs.Ytjhlkdmhlgghbaa.PFnSpanDivNone
open Go.RowKit Go.Proofs.YtjhlkdmhlgghbaaW.PrintWords Go.Proofs.YtjhlkdmhlgghbaaW.PrintLast Go.Proofs.YtjhlkdmhlgghbaaW.PrintMore
attribute [local go_sem] max2_int min2_int max_two min_two max_three min_three max_four min_four   -- for this text's walks alone
set_option linter.unusedVariables false
set_option linter.unusedSimpArgs false



def errW : Option Int → Value
  | none => .nilIface
  | some c => .iface 0 (.int .i64 c)
theorem errW_none : errW none = .nilIface := rfl
theorem errW_some (c : Int) : errW (some c) = .iface 0 (.int .i64 c) := rfl

theorem info5 : (Try.prog.info? 5).map (fun i => (i.zero, i.size, i.bytes)) = some (some (.int .u8 0), 1, 1) := by kernel_rfl
-- the values' own types

end Go.Proofs.Ytjhlkdmhlgghbaa.PFnSpanDivNone
