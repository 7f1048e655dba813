-- Written by plus.py for this claim.
import Derived.Test.YtdmjehepfkgpgaaDoorHLexAllx0
import Derived.Test.YtdmjehepfkgpgaaDoorHLexAllx1
import Derived.Test.YtdmjehepfkgpgaaDoorHLexAllx2
import Derived.Test.YtdmjehepfkgpgaaDoorHLexAllx3
import Derived.Test.YtdmjehepfkgpgaaDoorHLexAllx4
import Derived.Test.YtdmjehepfkgpgaaDoorHLexAllx5
import Derived.Test.YtdmjehepfkgpgaaDoorHLexAllx6
import Derived.Test.YtdmjehepfkgpgaaDoorHLexAllx7
import Derived.Test.YtdmjehepfkgpgaaDoorHLexAllx8
import Derived.Test.YtdmjehepfkgpgaaDoorHLexAllx9
import Derived.Test.YtdmjehepfkgpgaaDoorHLexAllx10
import Derived.Test.YtdmjehepfkgpgaaDoorHLexAllx11
import Derived.Test.YtdmjehepfkgpgaaDoorHLexAllx12
import Derived.Test.YtdmjehepfkgpgaaDoorHLexAllx13
namespace Go.Proofs.YtdmjehepfkgpgaaDoor.HLexAll
open Go.RowKit Go.Proofs.YtdmjehepfkgpgaaDoorW.PrintWords Go.Proofs.YtdmjehepfkgpgaaDoorW.PrintLast Go.Proofs.YtdmjehepfkgpgaaDoorW.PrintMore
attribute [local go_sem] max2_int min2_int max_two min_two max_three min_three max_four min_four   -- for this text's walks alone
set_option linter.unusedVariables false
set_option linter.unusedSimpArgs false

end Go.Proofs.YtdmjehepfkgpgaaDoor.HLexAll
