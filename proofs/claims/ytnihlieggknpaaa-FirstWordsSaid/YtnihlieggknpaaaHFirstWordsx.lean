-- Written by plus.py for this claim.
import Derived.Test.YtnihlieggknpaaaHFirstWordsx0
import Derived.Test.YtnihlieggknpaaaHFirstWordsx1
import Derived.Test.YtnihlieggknpaaaHFirstWordsx2
import Derived.Test.YtnihlieggknpaaaHFirstWordsx3
import Derived.Test.YtnihlieggknpaaaHFirstWordsx4
import Derived.Test.YtnihlieggknpaaaHFirstWordsx5
import Derived.Test.YtnihlieggknpaaaHFirstWordsx6
import Derived.Test.YtnihlieggknpaaaHFirstWordsx7
import Derived.Test.YtnihlieggknpaaaHFirstWordsx8
import Derived.Test.YtnihlieggknpaaaHFirstWordsx9
import Derived.Test.YtnihlieggknpaaaHFirstWordsx10
import Derived.Test.YtnihlieggknpaaaHFirstWordsx11
import Derived.Test.YtnihlieggknpaaaHFirstWordsx12
import Derived.Test.YtnihlieggknpaaaHFirstWordsx13
namespace Go.Proofs.Ytnihlieggknpaaa.HFirstWords
open Go.RowKit Go.Proofs.YtnihlieggknpaaaW.PrintWords Go.Proofs.YtnihlieggknpaaaW.PrintLast Go.Proofs.YtnihlieggknpaaaW.PrintMore
attribute [local go_sem] max2_int min2_int max_two min_two max_three min_three max_four min_four   -- for this text's walks alone
set_option linter.unusedVariables false
set_option linter.unusedSimpArgs false
end Go.Proofs.Ytnihlieggknpaaa.HFirstWords
