-- Written by plus.py for this claim.
import Derived.Test.YtdmjehepfkgpgaaDoorProg
import Derived.Below
import Derived.Deep.Draws
import Derived.Deep.AppendLies
import Derived.Maps.AppendAt
import Derived.OwnWalk
import Derived.Laws.BytesArg
import Derived.Laws.MakeOwn
import Derived.Laws.OwnMore
import Derived.Deep.OwnRows
import Derived.Tactics
import Derived.Lib.ConvBytes
import Derived.Laws.Slices
import Derived.WalkKit
import Derived.KernelRfl
import Derived.RowKit3
import Derived.Deep.LoopGhost
import Derived.Deep.QuietTactic
import Derived.BigQuiet
import Derived.WideLaws
import Derived.Deep.DeepCutAuto
import Derived.Deep.CutBlock
import Derived.Deep.RegionHeld3
import Derived.Laws.Rows
import Derived.Lib.AppendStr
import Derived.ArgAppend
import Derived.Laws.IdiomCopy
import Derived.OrdersHeld
import Derived.Laws.BitsLemmas
import Derived.RowKit
import Derived.Laws.Tables
import Derived.Lib.AppendIntMem
import Derived.Lib.Hide
import Derived.Lib.ItoaNum
import Derived.Test.YtdmjehepfkgpgaaDoorVPlus
import Derived.Test.YtdmjehepfkgpgaaDoorVShelf
import Derived.Test.YtdmjehepfkgpgaaDoorWWords
import Derived.Test.YtdmjehepfkgpgaaDoorWLast
import Derived.Test.YtdmjehepfkgpgaaDoorWTab
import Derived.Test.YtdmjehepfkgpgaaDoorWFour
import Derived.Test.YtdmjehepfkgpgaaDoorWQPut
import Derived.Test.YtdmjehepfkgpgaaDoorWApart
import Derived.Test.YtdmjehepfkgpgaaDoorWArr
import Derived.Test.YtdmjehepfkgpgaaDoorWZeros
import Derived.Test.YtdmjehepfkgpgaaDoorWFoot
import Derived.Test.YtdmjehepfkgpgaaDoorWKept
import Derived.Test.YtdmjehepfkgpgaaDoorWShare
import Derived.Test.YtdmjehepfkgpgaaDoorWN
import Derived.Test.YtdmjehepfkgpgaaDoorWFootNe
import Derived.Test.YtdmjehepfkgpgaaDoorWAt
import Derived.Test.YtdmjehepfkgpgaaDoorWEqStruct
import Derived.Test.YtdmjehepfkgpgaaDoorWRepsOne
import Derived.Test.YtdmjehepfkgpgaaDoorWInv
import Derived.Test.YtdmjehepfkgpgaaDoorWInvWords
import Derived.Test.YtdmjehepfkgpgaaDoorWGuard
import Derived.Test.YtdmjehepfkgpgaaDoorWNEv
import Derived.Test.YtdmjehepfkgpgaaDoorWMore
namespace Go.Proofs.YtdmjehepfkgpgaaDoor.HPlaceBack
open Go.RowKit Go.Proofs.YtdmjehepfkgpgaaDoorW.PrintWords Go.Proofs.YtdmjehepfkgpgaaDoorW.PrintLast Go.Proofs.YtdmjehepfkgpgaaDoorW.PrintMore
attribute [local go_sem] max2_int min2_int max_two min_two max_three min_three max_four min_four   -- for this text's walks alone
set_option linter.unusedVariables false
set_option linter.unusedSimpArgs false



def errW : Option Int → Value
  | none => .nilIface
  | some c => .iface 0 (.int .i64 c)
theorem errW_none : errW none = .nilIface := rfl
theorem errW_some (c : Int) : errW (some c) = .iface 0 (.int .i64 c) := rfl

theorem info5 : (Tryd.prog.info? 5).map (fun i => (i.zero, i.size, i.bytes)) = some (some (.int .u8 0), 1, 1) := by kernel_rfl
-- the values' own types

end Go.Proofs.YtdmjehepfkgpgaaDoor.HPlaceBack
