-- Written by plus.py for this claim.
import Derived.Test.YtdmjehepfkgpgaaDoorHLexAgainx0
import Derived.Test.YtdmjehepfkgpgaaDoorHLexAgainx1
import Derived.Test.YtdmjehepfkgpgaaDoorHLexAgainx2
import Derived.Test.YtdmjehepfkgpgaaDoorHLexAgainx3
import Derived.Test.YtdmjehepfkgpgaaDoorHLexAgainx4
import Derived.Test.YtdmjehepfkgpgaaDoorHLexAgainx5
import Derived.Test.YtdmjehepfkgpgaaDoorHLexAgainx6
import Derived.Test.YtdmjehepfkgpgaaDoorHLexAgainx7
import Derived.Test.YtdmjehepfkgpgaaDoorHLexAgainx8
import Derived.Test.YtdmjehepfkgpgaaDoorHLexAgainx9
import Derived.Test.YtdmjehepfkgpgaaDoorHLexAgainx10
import Derived.Test.YtdmjehepfkgpgaaDoorHLexAgainx11
namespace Go.Proofs.YtdmjehepfkgpgaaDoor.HLexAgain
open Go.RowKit Go.Proofs.YtdmjehepfkgpgaaDoorW.PrintWords Go.Proofs.YtdmjehepfkgpgaaDoorW.PrintLast Go.Proofs.YtdmjehepfkgpgaaDoorW.PrintMore
attribute [local go_sem] max2_int min2_int max_two min_two max_three min_three max_four min_four   -- for this text's walks alone
set_option linter.unusedVariables false
set_option linter.unusedSimpArgs false

end Go.Proofs.YtdmjehepfkgpgaaDoor.HLexAgain
