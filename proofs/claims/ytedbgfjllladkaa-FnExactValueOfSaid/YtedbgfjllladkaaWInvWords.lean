-- cut down by wip/pk/prune.py from the words that the kit's print lays
import Derived.Test.YtedbgfjllladkaaWInv
import Derived.Test.YtedbgfjllladkaaWFootNe
namespace Go.Proofs.YtedbgfjllladkaaW.PrintWords
open Go.RowKit
end Go.Proofs.YtedbgfjllladkaaW.PrintWords
namespace Go.Proofs.YtedbgfjllladkaaW.PrintLast
section
variable {ops : Array Oper} {a : Act} {o og : Oper} {g : Nat} {t : Tmp} {u : Bool}
end
end Go.Proofs.YtedbgfjllladkaaW.PrintLast
