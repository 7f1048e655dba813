-- Written by slim.py for this claim: of the words, what it reaches.
import Derived.Test.YtpfeebmfihgelaaGreatSGuessWholeWInv
import Derived.Test.YtpfeebmfihgelaaGreatSGuessWholeWFootNe
namespace Go.Proofs.YtpfeebmfihgelaaGreatW.PrintWords
open Go.RowKit
end Go.Proofs.YtpfeebmfihgelaaGreatW.PrintWords
namespace Go.Proofs.YtpfeebmfihgelaaGreatW.PrintLast
section
variable {ops : Array Oper} {a : Act} {o og : Oper} {g : Nat} {t : Tmp} {u : Bool}
end
end Go.Proofs.YtpfeebmfihgelaaGreatW.PrintLast
