-- Written by plus.py for this claim.
import Derived.Test.YtpfeebmfihgelaaDoorHLexReadsx0
import Derived.Test.YtpfeebmfihgelaaDoorHLexReadsx1
import Derived.Test.YtpfeebmfihgelaaDoorHLexReadsx2
import Derived.Test.YtpfeebmfihgelaaDoorHLexReadsx3
import Derived.Test.YtpfeebmfihgelaaDoorHLexReadsx4
import Derived.Test.YtpfeebmfihgelaaDoorHLexReadsx5
import Derived.Test.YtpfeebmfihgelaaDoorHLexReadsx6
import Derived.Test.YtpfeebmfihgelaaDoorHLexReadsx7
import Derived.Test.YtpfeebmfihgelaaDoorHLexReadsx8
import Derived.Test.YtpfeebmfihgelaaDoorHLexReadsx9
import Derived.Test.YtpfeebmfihgelaaDoorHLexReadsx10
import Derived.Test.YtpfeebmfihgelaaDoorHLexReadsx11
import Derived.Test.YtpfeebmfihgelaaDoorHLexReadsx12
import Derived.Test.YtpfeebmfihgelaaDoorHLexReadsx13
import Derived.Test.YtpfeebmfihgelaaDoorHLexReadsx14
namespace Go.Proofs.YtpfeebmfihgelaaDoor.HLexReads
open Go.RowKit Go.Proofs.YtpfeebmfihgelaaDoorW.PrintWords Go.Proofs.YtpfeebmfihgelaaDoorW.PrintLast Go.Proofs.YtpfeebmfihgelaaDoorW.PrintMore
attribute [local go_sem] max2_int min2_int max_two min_two max_three min_three max_four min_four   -- for this text's walks alone
set_option linter.unusedVariables false
set_option linter.unusedSimpArgs false

end Go.Proofs.YtpfeebmfihgelaaDoor.HLexReads
