-- Written by slim.py for this claim: of the words, what it reaches.
import Derived.Test.YtpegkfococfkpaaSFirstRowsWInv
import Derived.Test.YtpegkfococfkpaaSFirstRowsWFootNe
namespace Go.Proofs.YtpegkfococfkpaaW.PrintWords
open Go.RowKit
end Go.Proofs.YtpegkfococfkpaaW.PrintWords
namespace Go.Proofs.YtpegkfococfkpaaW.PrintLast
section
variable {ops : Array Oper} {a : Act} {o og : Oper} {g : Nat} {t : Tmp} {u : Bool}
end
end Go.Proofs.YtpegkfococfkpaaW.PrintLast
