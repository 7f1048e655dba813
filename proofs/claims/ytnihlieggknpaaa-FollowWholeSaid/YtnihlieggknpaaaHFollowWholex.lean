-- Written by plus.py for this claim.
import Derived.Test.YtnihlieggknpaaaHFollowWholex0
import Derived.Test.YtnihlieggknpaaaHFollowWholex1
import Derived.Test.YtnihlieggknpaaaHFollowWholex2
import Derived.Test.YtnihlieggknpaaaHFollowWholex3
import Derived.Test.YtnihlieggknpaaaHFollowWholex4
import Derived.Test.YtnihlieggknpaaaHFollowWholex5
import Derived.Test.YtnihlieggknpaaaHFollowWholex6
import Derived.Test.YtnihlieggknpaaaHFollowWholex7
import Derived.Test.YtnihlieggknpaaaHFollowWholex8
import Derived.Test.YtnihlieggknpaaaHFollowWholex9
import Derived.Test.YtnihlieggknpaaaHFollowWholex10
import Derived.Test.YtnihlieggknpaaaHFollowWholex11
import Derived.Test.YtnihlieggknpaaaHFollowWholex12
import Derived.Test.YtnihlieggknpaaaHFollowWholex13
namespace Go.Proofs.Ytnihlieggknpaaa.HFollowWhole
open Go.RowKit Go.Proofs.YtnihlieggknpaaaW.PrintWords Go.Proofs.YtnihlieggknpaaaW.PrintLast Go.Proofs.YtnihlieggknpaaaW.PrintMore
attribute [local go_sem] max2_int min2_int max_two min_two max_three min_three max_four min_four   -- for this text's walks alone
set_option linter.unusedVariables false
set_option linter.unusedSimpArgs false
end Go.Proofs.Ytnihlieggknpaaa.HFollowWhole
