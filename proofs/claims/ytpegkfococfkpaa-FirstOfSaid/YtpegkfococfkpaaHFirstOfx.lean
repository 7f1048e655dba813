-- Written by plus.py for this claim.
import Derived.Test.YtpegkfococfkpaaHFirstOfx0
import Derived.Test.YtpegkfococfkpaaHFirstOfx1
import Derived.Test.YtpegkfococfkpaaHFirstOfx2
import Derived.Test.YtpegkfococfkpaaHFirstOfx3
import Derived.Test.YtpegkfococfkpaaHFirstOfx4
import Derived.Test.YtpegkfococfkpaaHFirstOfx5
import Derived.Test.YtpegkfococfkpaaHFirstOfx6
import Derived.Test.YtpegkfococfkpaaHFirstOfx7
import Derived.Test.YtpegkfococfkpaaHFirstOfx8
import Derived.Test.YtpegkfococfkpaaHFirstOfx9
import Derived.Test.YtpegkfococfkpaaHFirstOfx10
import Derived.Test.YtpegkfococfkpaaHFirstOfx11
namespace Go.Proofs.Ytpegkfococfkpaa.HFirstOf
open Go.RowKit Go.Proofs.YtpegkfococfkpaaW.PrintWords Go.Proofs.YtpegkfococfkpaaW.PrintLast Go.Proofs.YtpegkfococfkpaaW.PrintMore
attribute [local go_sem] max2_int min2_int max_two min_two max_three min_three max_four min_four   -- for this text's walks alone
set_option linter.unusedVariables false
set_option linter.unusedSimpArgs false
end Go.Proofs.Ytpegkfococfkpaa.HFirstOf
