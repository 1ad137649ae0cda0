/- Proved: each Go function that is named below comes to the answers of the Lean function printed for it. Printed by a changed copy of the kit's print program (wip/mkpk.py), for this claim. -/
import Derived.Test.YtclploookcjcbaaProg
import Derived.Below
import Derived.Deep.Draws
import Derived.Deep.AppendLies
import Derived.Maps.AppendAt
import Derived.OwnWalk
import Derived.Laws.BytesArg
import Derived.Laws.MakeOwn
import Derived.Laws.OwnMore
import Derived.Deep.OwnRows
import Derived.Tactics
import Derived.Lib.ConvBytes
import Derived.Laws.Slices
import Derived.WalkKit
import Derived.KernelRfl
import Derived.RowKit3
import Derived.Deep.LoopGhost
import Derived.Deep.QuietTactic
import Derived.BigQuiet
import Derived.WideLaws
import Derived.Deep.DeepCutAuto
import Derived.Deep.CutBlock
import Derived.Deep.RegionHeld3
import Derived.Laws.Rows
import Derived.Lib.AppendStr
import Derived.ArgAppend
import Derived.Laws.IdiomCopy
import Derived.OrdersHeld
import Derived.Laws.BitsLemmas
import Derived.RowKit
import Derived.Test.YtclploookcjcbaaWWords
import Derived.Test.YtclploookcjcbaaWLast
import Derived.Test.YtclploookcjcbaaWTab
import Derived.Test.YtclploookcjcbaaWFour
import Derived.Test.YtclploookcjcbaaWQPut
import Derived.Test.YtclploookcjcbaaWApart
import Derived.Test.YtclploookcjcbaaWArr
import Derived.Test.YtclploookcjcbaaWZeros
import Derived.Test.YtclploookcjcbaaWFoot
import Derived.Test.YtclploookcjcbaaWKept
import Derived.Test.YtclploookcjcbaaWShare
import Derived.Test.YtclploookcjcbaaWN
import Derived.Test.YtclploookcjcbaaWFootNe
import Derived.Test.YtclploookcjcbaaWAt
import Derived.Test.YtclploookcjcbaaWEqStruct
import Derived.Test.YtclploookcjcbaaWRepsOne
import Derived.Test.YtclploookcjcbaaWInv
import Derived.Test.YtclploookcjcbaaWInvWords
import Derived.Test.YtclploookcjcbaaWGuard
import Derived.Test.YtclploookcjcbaaWNEv
import Derived.Test.YtclploookcjcbaaWMore
import Derived.Test.YtclploookcjcbaaFlt
namespace Go.Proofs.Ytclploookcjcbaa.PKeyOf
open Go.RowKit Go.Proofs.YtclploookcjcbaaW.PrintWords Go.Proofs.YtclploookcjcbaaW.PrintLast Go.Proofs.YtclploookcjcbaaW.PrintMore
attribute [local go_sem] max2_int min2_int max_two min_two max_three min_three max_four min_four   -- for this text's walks alone
set_option linter.unusedVariables false
set_option linter.unusedSimpArgs false



def errW : Option Int → Value
  | none => .nilIface
  | some c => .iface 0 (.int .i64 c)
theorem errW_none : errW none = .nilIface := rfl
theorem errW_some (c : Int) : errW (some c) = .iface 0 (.int .i64 c) := rfl

-- the values' own types

end Go.Proofs.Ytclploookcjcbaa.PKeyOf
