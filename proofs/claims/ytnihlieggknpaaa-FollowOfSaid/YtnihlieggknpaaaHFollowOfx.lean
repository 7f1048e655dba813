-- Written by plus.py for this claim.
import Derived.Test.YtnihlieggknpaaaHFollowOfx0
import Derived.Test.YtnihlieggknpaaaHFollowOfx1
import Derived.Test.YtnihlieggknpaaaHFollowOfx2
import Derived.Test.YtnihlieggknpaaaHFollowOfx3
import Derived.Test.YtnihlieggknpaaaHFollowOfx4
import Derived.Test.YtnihlieggknpaaaHFollowOfx5
import Derived.Test.YtnihlieggknpaaaHFollowOfx6
import Derived.Test.YtnihlieggknpaaaHFollowOfx7
import Derived.Test.YtnihlieggknpaaaHFollowOfx8
import Derived.Test.YtnihlieggknpaaaHFollowOfx9
import Derived.Test.YtnihlieggknpaaaHFollowOfx10
import Derived.Test.YtnihlieggknpaaaHFollowOfx11
import Derived.Test.YtnihlieggknpaaaHFollowOfx12
import Derived.Test.YtnihlieggknpaaaHFollowOfx13
import Derived.Test.YtnihlieggknpaaaHFollowOfx14
import Derived.Test.YtnihlieggknpaaaHFollowOfx15
import Derived.Test.YtnihlieggknpaaaHFollowOfx16
namespace Go.Proofs.Ytnihlieggknpaaa.HFollowOf
open Go.RowKit Go.Proofs.YtnihlieggknpaaaW.PrintWords Go.Proofs.YtnihlieggknpaaaW.PrintLast Go.Proofs.YtnihlieggknpaaaW.PrintMore
attribute [local go_sem] yj yk yw yx ya yb yl ym   -- for this text's walks alone
set_option linter.unusedVariables false
set_option linter.unusedSimpArgs false
end Go.Proofs.Ytnihlieggknpaaa.HFollowOf
