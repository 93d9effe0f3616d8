-- cut down by wip/pk/prune.py from the words that the kit's print lays
import Derived.Test.YtllfeehchiikoaaWInv
import Derived.Test.YtllfeehchiikoaaWFootNe
namespace Go.Proofs.YtllfeehchiikoaaW.PrintWords
open Go.RowKit
end Go.Proofs.YtllfeehchiikoaaW.PrintWords
namespace Go.Proofs.YtllfeehchiikoaaW.PrintLast
section
variable {ops : Array Oper} {a : Act} {o og : Oper} {g : Nat} {t : Tmp} {u : Bool}
end
end Go.Proofs.YtllfeehchiikoaaW.PrintLast
