-- cut down by wip/pk/prune.py from the words that the kit's print lays
import Derived.Test.YtnkihjabmbeicaaWInv
import Derived.Test.YtnkihjabmbeicaaWFootNe
namespace Go.Proofs.YtnkihjabmbeicaaW.PrintWords
open Go.RowKit
end Go.Proofs.YtnkihjabmbeicaaW.PrintWords
namespace Go.Proofs.YtnkihjabmbeicaaW.PrintLast
section
variable {ops : Array Oper} {a : Act} {o og : Oper} {g : Nat} {t : Tmp} {u : Bool}
end
end Go.Proofs.YtnkihjabmbeicaaW.PrintLast
