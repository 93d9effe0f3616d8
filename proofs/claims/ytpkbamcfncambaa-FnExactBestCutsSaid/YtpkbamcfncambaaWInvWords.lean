-- cut down by wip/pk/prune.py from the words that the kit's print lays
import Derived.Test.YtpkbamcfncambaaWInv
import Derived.Test.YtpkbamcfncambaaWFootNe
namespace Go.Proofs.YtpkbamcfncambaaW.PrintWords
open Go.RowKit
end Go.Proofs.YtpkbamcfncambaaW.PrintWords
namespace Go.Proofs.YtpkbamcfncambaaW.PrintLast
section
variable {ops : Array Oper} {a : Act} {o og : Oper} {g : Nat} {t : Tmp} {u : Bool}
end
end Go.Proofs.YtpkbamcfncambaaW.PrintLast
