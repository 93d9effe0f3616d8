-- cut down by wip/pk/prune.py from the words that the kit's print lays
import Derived.Test.YtpbneibgngmciaaWInv
import Derived.Test.YtpbneibgngmciaaWFootNe
namespace Go.Proofs.YtpbneibgngmciaaW.PrintWords
open Go.RowKit
end Go.Proofs.YtpbneibgngmciaaW.PrintWords
namespace Go.Proofs.YtpbneibgngmciaaW.PrintLast
section
variable {ops : Array Oper} {a : Act} {o og : Oper} {g : Nat} {t : Tmp} {u : Bool}
end
end Go.Proofs.YtpbneibgngmciaaW.PrintLast
