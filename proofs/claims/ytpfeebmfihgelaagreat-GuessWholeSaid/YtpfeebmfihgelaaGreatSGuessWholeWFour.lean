-- Written by slim.py for this claim: of the words, what it reaches.
import Derived.Test.YtpfeebmfihgelaaGreatSGuessWholeWTab
namespace Go.Proofs.YtpfeebmfihgelaaGreatW.PrintLast
section
variable {P : Program} {ops : Array Oper} {Q : Exit → Act → World → Prop} {md : Region.Mode} {S : World → Prop} {ds : List Nat} {T : Bool × List (List Nat × List Nat)}
end
end Go.Proofs.YtpfeebmfihgelaaGreatW.PrintLast
