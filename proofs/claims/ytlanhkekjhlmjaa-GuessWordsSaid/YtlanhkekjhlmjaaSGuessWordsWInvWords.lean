-- Written by slim.py for this claim: of the words, what it reaches.
import Derived.Test.YtlanhkekjhlmjaaSGuessWordsWInv
import Derived.Test.YtlanhkekjhlmjaaSGuessWordsWFootNe
namespace Go.Proofs.YtlanhkekjhlmjaaW.PrintWords
open Go.RowKit
end Go.Proofs.YtlanhkekjhlmjaaW.PrintWords
namespace Go.Proofs.YtlanhkekjhlmjaaW.PrintLast
section
variable {ops : Array Oper} {a : Act} {o og : Oper} {g : Nat} {t : Tmp} {u : Bool}
end
end Go.Proofs.YtlanhkekjhlmjaaW.PrintLast
