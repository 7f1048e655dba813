-- Written by slim.py for this claim: of the words, what it reaches.
import Derived.Test.YtnihlieggknpaaaSFollowWholeWInv
import Derived.Test.YtnihlieggknpaaaSFollowWholeWFootNe
namespace Go.Proofs.YtnihlieggknpaaaW.PrintWords
open Go.RowKit
end Go.Proofs.YtnihlieggknpaaaW.PrintWords
namespace Go.Proofs.YtnihlieggknpaaaW.PrintLast
section
variable {ops : Array Oper} {a : Act} {o og : Oper} {g : Nat} {t : Tmp} {u : Bool}
end
end Go.Proofs.YtnihlieggknpaaaW.PrintLast
