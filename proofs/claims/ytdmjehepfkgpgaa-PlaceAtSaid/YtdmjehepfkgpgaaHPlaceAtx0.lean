-- Written by plus.py for this claim.
import Derived.Test.YtdmjehepfkgpgaaProg
import Derived.Below
import Derived.Deep.Draws
import Derived.Deep.AppendLies
import Derived.Maps.AppendAt
import Derived.OwnWalk
import Derived.Laws.BytesArg
import Derived.Laws.MakeOwn
import Derived.Laws.OwnMore
import Derived.Deep.OwnRows
import Derived.Tactics
import Derived.Lib.ConvBytes
import Derived.Laws.Slices
import Derived.WalkKit
import Derived.KernelRfl
import Derived.RowKit3
import Derived.Deep.LoopGhost
import Derived.Deep.QuietTactic
import Derived.BigQuiet
import Derived.WideLaws
import Derived.Deep.DeepCutAuto
import Derived.Deep.CutBlock
import Derived.Deep.RegionHeld3
import Derived.Laws.Rows
import Derived.Lib.AppendStr
import Derived.ArgAppend
import Derived.Laws.IdiomCopy
import Derived.OrdersHeld
import Derived.Laws.BitsLemmas
import Derived.RowKit
import Derived.Lib.Hide
import Derived.Test.YtdmjehepfkgpgaaVPlus
import Derived.Test.YtdmjehepfkgpgaaVShelf
import Derived.Test.YtdmjehepfkgpgaaWWords
import Derived.Test.YtdmjehepfkgpgaaWLast
import Derived.Test.YtdmjehepfkgpgaaWTab
import Derived.Test.YtdmjehepfkgpgaaWFour
import Derived.Test.YtdmjehepfkgpgaaWQPut
import Derived.Test.YtdmjehepfkgpgaaWApart
import Derived.Test.YtdmjehepfkgpgaaWArr
import Derived.Test.YtdmjehepfkgpgaaWZeros
import Derived.Test.YtdmjehepfkgpgaaWFoot
import Derived.Test.YtdmjehepfkgpgaaWKept
import Derived.Test.YtdmjehepfkgpgaaWShare
import Derived.Test.YtdmjehepfkgpgaaWN
import Derived.Test.YtdmjehepfkgpgaaWFootNe
import Derived.Test.YtdmjehepfkgpgaaWAt
import Derived.Test.YtdmjehepfkgpgaaWEqStruct
import Derived.Test.YtdmjehepfkgpgaaWRepsOne
import Derived.Test.YtdmjehepfkgpgaaWInv
import Derived.Test.YtdmjehepfkgpgaaWInvWords
import Derived.Test.YtdmjehepfkgpgaaWGuard
import Derived.Test.YtdmjehepfkgpgaaWNEv
import Derived.Test.YtdmjehepfkgpgaaWMore
namespace Go.Proofs.Ytdmjehepfkgpgaa.HPlaceAt
open Go.RowKit Go.Proofs.YtdmjehepfkgpgaaW.PrintWords Go.Proofs.YtdmjehepfkgpgaaW.PrintLast Go.Proofs.YtdmjehepfkgpgaaW.PrintMore
attribute [local go_sem] max2_int min2_int max_two min_two max_three min_three max_four min_four   -- for this text's walks alone
set_option linter.unusedVariables false
set_option linter.unusedSimpArgs false



def errW : Option Int → Value
  | none => .nilIface
  | some c => .iface 0 (.int .i64 c)
theorem errW_none : errW none = .nilIface := rfl
theorem errW_some (c : Int) : errW (some c) = .iface 0 (.int .i64 c) := rfl

-- the values' own types

end Go.Proofs.Ytdmjehepfkgpgaa.HPlaceAt
