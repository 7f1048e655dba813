-- Written by slim.py for this claim: of the words, what it reaches.
import Derived.Test.YtpfeebmfihgelaaGreatSGuessWholeWWords
import Derived.Laws.StructEq
namespace Go.Proofs.YtpfeebmfihgelaaGreatW.PrintWords
open Go.RowKit
section
variable {P : Program} {d : Nat} {xs ys : Array Value} {f : Field} {fs : List Field} {a b : Value} {r s : Bool} {w : World}
end
end Go.Proofs.YtpfeebmfihgelaaGreatW.PrintWords
