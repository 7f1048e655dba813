-- Written by plus.py for this claim.
import Derived.Test.YtlanhkekjhlmjaaHGuessOfx0
import Derived.Test.YtlanhkekjhlmjaaHGuessOfx1
import Derived.Test.YtlanhkekjhlmjaaHGuessOfx2
import Derived.Test.YtlanhkekjhlmjaaHGuessOfx3
import Derived.Test.YtlanhkekjhlmjaaHGuessOfx4
import Derived.Test.YtlanhkekjhlmjaaHGuessOfx5
import Derived.Test.YtlanhkekjhlmjaaHGuessOfx6
import Derived.Test.YtlanhkekjhlmjaaHGuessOfx7
import Derived.Test.YtlanhkekjhlmjaaHGuessOfx8
import Derived.Test.YtlanhkekjhlmjaaHGuessOfx9
import Derived.Test.YtlanhkekjhlmjaaHGuessOfx10
import Derived.Test.YtlanhkekjhlmjaaHGuessOfx11
import Derived.Test.YtlanhkekjhlmjaaHGuessOfx12
import Derived.Test.YtlanhkekjhlmjaaHGuessOfx13
import Derived.Test.YtlanhkekjhlmjaaHGuessOfx14
import Derived.Test.YtlanhkekjhlmjaaHGuessOfx15
import Derived.Test.YtlanhkekjhlmjaaHGuessOfx16
import Derived.Test.YtlanhkekjhlmjaaHGuessOfx17
import Derived.Test.YtlanhkekjhlmjaaHGuessOfx18
import Derived.Test.YtlanhkekjhlmjaaHGuessOfx19
import Derived.Test.YtlanhkekjhlmjaaHGuessOfx20
namespace Go.Proofs.Ytlanhkekjhlmjaa.HGuessOf
open Go.RowKit Go.Proofs.YtlanhkekjhlmjaaW.PrintWords Go.Proofs.YtlanhkekjhlmjaaW.PrintLast Go.Proofs.YtlanhkekjhlmjaaW.PrintMore
attribute [local go_sem] yq yr ZJ ZK ym yn yt yu   -- for this text's walks alone
set_option linter.unusedVariables false
set_option linter.unusedSimpArgs false
end Go.Proofs.Ytlanhkekjhlmjaa.HGuessOf
