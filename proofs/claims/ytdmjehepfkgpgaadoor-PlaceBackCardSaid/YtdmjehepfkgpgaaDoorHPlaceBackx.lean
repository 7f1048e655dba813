-- Written by plus.py for this claim.
import Derived.Test.YtdmjehepfkgpgaaDoorHPlaceBackx0
import Derived.Test.YtdmjehepfkgpgaaDoorHPlaceBackx1
import Derived.Test.YtdmjehepfkgpgaaDoorHPlaceBackx2
namespace Go.Proofs.YtdmjehepfkgpgaaDoor.HPlaceBack
open Go.RowKit Go.Proofs.YtdmjehepfkgpgaaDoorW.PrintWords Go.Proofs.YtdmjehepfkgpgaaDoorW.PrintLast Go.Proofs.YtdmjehepfkgpgaaDoorW.PrintMore
attribute [local go_sem] max2_int min2_int max_two min_two max_three min_three max_four min_four   -- for this text's walks alone
set_option linter.unusedVariables false
set_option linter.unusedSimpArgs false

end Go.Proofs.YtdmjehepfkgpgaaDoor.HPlaceBack
