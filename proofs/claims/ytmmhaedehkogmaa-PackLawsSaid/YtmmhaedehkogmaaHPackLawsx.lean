-- Written by plus.py for this claim.
import Derived.Test.YtmmhaedehkogmaaHPackLawsx0
import Derived.Test.YtmmhaedehkogmaaHPackLawsx1
import Derived.Test.YtmmhaedehkogmaaHPackLawsx2
import Derived.Test.YtmmhaedehkogmaaHPackLawsx3
import Derived.Test.YtmmhaedehkogmaaHPackLawsx4
namespace Go.Proofs.Ytmmhaedehkogmaa.HPackLaws
open Go.RowKit Go.Proofs.YtmmhaedehkogmaaW.PrintWords Go.Proofs.YtmmhaedehkogmaaW.PrintLast Go.Proofs.YtmmhaedehkogmaaW.PrintMore
attribute [local go_sem] max2_int min2_int max_two min_two max_three min_three max_four min_four   -- for this text's walks alone
set_option linter.unusedVariables false
set_option linter.unusedSimpArgs false

end Go.Proofs.Ytmmhaedehkogmaa.HPackLaws
