-- Written by plus.py for this claim.
import Derived.Test.YtmmhaedehkogmaaHPackCatsx0
import Derived.Test.YtmmhaedehkogmaaHPackCatsx1
import Derived.Test.YtmmhaedehkogmaaHPackCatsx2
import Derived.Test.YtmmhaedehkogmaaHPackCatsx3
import Derived.Test.YtmmhaedehkogmaaHPackCatsx4
import Derived.Test.YtmmhaedehkogmaaHPackCatsx5
namespace Go.Proofs.Ytmmhaedehkogmaa.HPackCats
open Go.RowKit Go.Proofs.YtmmhaedehkogmaaW.PrintWords Go.Proofs.YtmmhaedehkogmaaW.PrintLast Go.Proofs.YtmmhaedehkogmaaW.PrintMore
attribute [local go_sem] max2_int min2_int max_two min_two max_three min_three max_four min_four   -- for this text's walks alone
set_option linter.unusedVariables false
set_option linter.unusedSimpArgs false

end Go.Proofs.Ytmmhaedehkogmaa.HPackCats
