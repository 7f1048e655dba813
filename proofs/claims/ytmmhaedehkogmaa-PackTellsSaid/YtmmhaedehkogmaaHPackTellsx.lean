-- Written by plus.py for this claim.
import Derived.Test.YtmmhaedehkogmaaHPackTellsx0
import Derived.Test.YtmmhaedehkogmaaHPackTellsx1
import Derived.Test.YtmmhaedehkogmaaHPackTellsx2
import Derived.Test.YtmmhaedehkogmaaHPackTellsx3
import Derived.Test.YtmmhaedehkogmaaHPackTellsx4
import Derived.Test.YtmmhaedehkogmaaHPackTellsx5
import Derived.Test.YtmmhaedehkogmaaHPackTellsx6
import Derived.Test.YtmmhaedehkogmaaHPackTellsx7
namespace Go.Proofs.Ytmmhaedehkogmaa.HPackTells
open Go.RowKit Go.Proofs.YtmmhaedehkogmaaW.PrintWords Go.Proofs.YtmmhaedehkogmaaW.PrintLast Go.Proofs.YtmmhaedehkogmaaW.PrintMore
attribute [local go_sem] max2_int min2_int max_two min_two max_three min_three max_four min_four   -- for this text's walks alone
set_option linter.unusedVariables false
set_option linter.unusedSimpArgs false

end Go.Proofs.Ytmmhaedehkogmaa.HPackTells
