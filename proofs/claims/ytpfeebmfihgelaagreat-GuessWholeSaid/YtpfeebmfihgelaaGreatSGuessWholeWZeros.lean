-- Written by slim.py for this claim: of the words, what it reaches.
import Derived.Test.YtpfeebmfihgelaaGreatSGuessWholeWApart
import Derived.Test.YtpfeebmfihgelaaGreatSGuessWholeWArr
namespace Go.Proofs.YtpfeebmfihgelaaGreatW.PrintWords
open Go.RowKit
section
variable {P : Program}
end
namespace Kd
section
variable {P : Program} {ops : Array Oper} {rest : List Oper} {o : Oper} {a : Act} {Q : Exit → Act → World → Prop} {Kc : Act → World → Prop} {α : Type}
end
section
variable {α : Type} {d : Kd α} {e : Nat} {w : World} {base : Nat} {ok : Nat → Prop} {v : Value} {xs : List α}
end
section
variable {P : Program} {ops : Array Oper} {rest : List Oper} {o : Oper} {a : Act} {Q : Exit → Act → World → Prop} {Kc : Act → World → Prop} {α : Type}
end
end Kd
end Go.Proofs.YtpfeebmfihgelaaGreatW.PrintWords
