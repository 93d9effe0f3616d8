-- cut down by wip/pk/prune.py from the words that the kit's print lays
import Derived.Test.YtohhcomokcdbfaaWInv
import Derived.Test.YtohhcomokcdbfaaWFootNe
namespace Go.Proofs.YtohhcomokcdbfaaW.PrintWords
open Go.RowKit
end Go.Proofs.YtohhcomokcdbfaaW.PrintWords
namespace Go.Proofs.YtohhcomokcdbfaaW.PrintLast
section
variable {ops : Array Oper} {a : Act} {o og : Oper} {g : Nat} {t : Tmp} {u : Bool}
end
end Go.Proofs.YtohhcomokcdbfaaW.PrintLast
