-- Written by plus.py for this claim.
import Derived.Test.YtlanhkekjhlmjaaHGuessWordsx0
import Derived.Test.YtlanhkekjhlmjaaHGuessWordsx1
import Derived.Test.YtlanhkekjhlmjaaHGuessWordsx2
import Derived.Test.YtlanhkekjhlmjaaHGuessWordsx3
import Derived.Test.YtlanhkekjhlmjaaHGuessWordsx4
import Derived.Test.YtlanhkekjhlmjaaHGuessWordsx5
import Derived.Test.YtlanhkekjhlmjaaHGuessWordsx6
import Derived.Test.YtlanhkekjhlmjaaHGuessWordsx7
import Derived.Test.YtlanhkekjhlmjaaHGuessWordsx8
import Derived.Test.YtlanhkekjhlmjaaHGuessWordsx9
import Derived.Test.YtlanhkekjhlmjaaHGuessWordsx10
import Derived.Test.YtlanhkekjhlmjaaHGuessWordsx11
import Derived.Test.YtlanhkekjhlmjaaHGuessWordsx12
import Derived.Test.YtlanhkekjhlmjaaHGuessWordsx13
import Derived.Test.YtlanhkekjhlmjaaHGuessWordsx14
import Derived.Test.YtlanhkekjhlmjaaHGuessWordsx15
import Derived.Test.YtlanhkekjhlmjaaHGuessWordsx16
import Derived.Test.YtlanhkekjhlmjaaHGuessWordsx17
import Derived.Test.YtlanhkekjhlmjaaHGuessWordsx18
import Derived.Test.YtlanhkekjhlmjaaHGuessWordsx19
namespace Go.Proofs.Ytlanhkekjhlmjaa.HGuessWords
open Go.RowKit Go.Proofs.YtlanhkekjhlmjaaW.PrintWords Go.Proofs.YtlanhkekjhlmjaaW.PrintLast Go.Proofs.YtlanhkekjhlmjaaW.PrintMore
attribute [local go_sem] yq yr ZM ZN yj yk yt yu   -- for this text's walks alone
set_option linter.unusedVariables false
set_option linter.unusedSimpArgs false
end Go.Proofs.Ytlanhkekjhlmjaa.HGuessWords
