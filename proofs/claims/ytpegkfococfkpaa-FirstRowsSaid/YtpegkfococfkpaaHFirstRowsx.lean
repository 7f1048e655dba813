-- Written by plus.py for this claim.
import Derived.Test.YtpegkfococfkpaaHFirstRowsx0
import Derived.Test.YtpegkfococfkpaaHFirstRowsx1
import Derived.Test.YtpegkfococfkpaaHFirstRowsx2
import Derived.Test.YtpegkfococfkpaaHFirstRowsx3
import Derived.Test.YtpegkfococfkpaaHFirstRowsx4
import Derived.Test.YtpegkfococfkpaaHFirstRowsx5
import Derived.Test.YtpegkfococfkpaaHFirstRowsx6
import Derived.Test.YtpegkfococfkpaaHFirstRowsx7
import Derived.Test.YtpegkfococfkpaaHFirstRowsx8
import Derived.Test.YtpegkfococfkpaaHFirstRowsx9
import Derived.Test.YtpegkfococfkpaaHFirstRowsx10
import Derived.Test.YtpegkfococfkpaaHFirstRowsx11
import Derived.Test.YtpegkfococfkpaaHFirstRowsx12
import Derived.Test.YtpegkfococfkpaaHFirstRowsx13
namespace Go.Proofs.Ytpegkfococfkpaa.HFirstRows
open Go.RowKit Go.Proofs.YtpegkfococfkpaaW.PrintWords Go.Proofs.YtpegkfococfkpaaW.PrintLast Go.Proofs.YtpegkfococfkpaaW.PrintMore
attribute [local go_sem] max2_int min2_int max_two min_two max_three min_three max_four min_four   -- for this text's walks alone
set_option linter.unusedVariables false
set_option linter.unusedSimpArgs false
end Go.Proofs.Ytpegkfococfkpaa.HFirstRows
