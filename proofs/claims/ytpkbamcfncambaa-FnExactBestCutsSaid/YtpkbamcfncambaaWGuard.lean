-- cut down by wip/pk/prune.py from the words that the kit's print lays
import Derived.Test.YtpkbamcfncambaaWWords
namespace Go.Proofs.YtpkbamcfncambaaW.PrintWords
open Go.RowKit
section
variable {P : Program} {ops : Array Oper} {rest : List Oper} {o : Oper} {a : Act} {Q : Exit → Act → World → Prop} {W : World}
end
end Go.Proofs.YtpkbamcfncambaaW.PrintWords
