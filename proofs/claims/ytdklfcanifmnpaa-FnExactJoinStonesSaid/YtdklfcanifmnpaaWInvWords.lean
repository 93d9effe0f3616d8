-- cut down by wip/pk/prune.py from the words that the kit's print lays
import Derived.Test.YtdklfcanifmnpaaWInv
import Derived.Test.YtdklfcanifmnpaaWFootNe
namespace Go.Proofs.YtdklfcanifmnpaaW.PrintWords
open Go.RowKit
end Go.Proofs.YtdklfcanifmnpaaW.PrintWords
namespace Go.Proofs.YtdklfcanifmnpaaW.PrintLast
section
variable {ops : Array Oper} {a : Act} {o og : Oper} {g : Nat} {t : Tmp} {u : Bool}
end
end Go.Proofs.YtdklfcanifmnpaaW.PrintLast
