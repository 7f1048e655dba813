-- Written by plus.py for this claim.
import Derived.Test.YtnihlieggknpaaaHFirstAllx0
import Derived.Test.YtnihlieggknpaaaHFirstAllx1
import Derived.Test.YtnihlieggknpaaaHFirstAllx2
import Derived.Test.YtnihlieggknpaaaHFirstAllx3
import Derived.Test.YtnihlieggknpaaaHFirstAllx4
import Derived.Test.YtnihlieggknpaaaHFirstAllx5
import Derived.Test.YtnihlieggknpaaaHFirstAllx6
import Derived.Test.YtnihlieggknpaaaHFirstAllx7
import Derived.Test.YtnihlieggknpaaaHFirstAllx8
import Derived.Test.YtnihlieggknpaaaHFirstAllx9
namespace Go.Proofs.Ytnihlieggknpaaa.HFirstAll
open Go.RowKit Go.Proofs.YtnihlieggknpaaaW.PrintWords Go.Proofs.YtnihlieggknpaaaW.PrintLast Go.Proofs.YtnihlieggknpaaaW.PrintMore
attribute [local go_sem] max2_int min2_int max_two min_two max_three min_three max_four min_four   -- for this text's walks alone
set_option linter.unusedVariables false
set_option linter.unusedSimpArgs false
end Go.Proofs.Ytnihlieggknpaaa.HFirstAll
