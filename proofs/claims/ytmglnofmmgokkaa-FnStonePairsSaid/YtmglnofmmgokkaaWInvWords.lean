-- cut down by wip/pk/prune.py from the words that the kit's print lays
import Derived.Test.YtmglnofmmgokkaaWInv
import Derived.Test.YtmglnofmmgokkaaWFootNe
namespace Go.Proofs.YtmglnofmmgokkaaW.PrintWords
open Go.RowKit
end Go.Proofs.YtmglnofmmgokkaaW.PrintWords
namespace Go.Proofs.YtmglnofmmgokkaaW.PrintLast
section
variable {ops : Array Oper} {a : Act} {o og : Oper} {g : Nat} {t : Tmp} {u : Bool}
end
end Go.Proofs.YtmglnofmmgokkaaW.PrintLast
