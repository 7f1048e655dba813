-- Written by plus.py for this claim.
import Derived.Test.YtdmjehepfkgpgaaHPlaceAtx0
import Derived.Test.YtdmjehepfkgpgaaHPlaceAtx1
import Derived.Test.YtdmjehepfkgpgaaHPlaceAtx2
namespace Go.Proofs.Ytdmjehepfkgpgaa.HPlaceAt
open Go.RowKit Go.Proofs.YtdmjehepfkgpgaaW.PrintWords Go.Proofs.YtdmjehepfkgpgaaW.PrintLast Go.Proofs.YtdmjehepfkgpgaaW.PrintMore
attribute [local go_sem] max2_int min2_int max_two min_two max_three min_three max_four min_four   -- for this text's walks alone
set_option linter.unusedVariables false
set_option linter.unusedSimpArgs false

end Go.Proofs.Ytdmjehepfkgpgaa.HPlaceAt
