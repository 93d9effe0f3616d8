-- cut down by wip/pk/prune.py from the words that the kit's print lays
import Derived.Test.YtpkbamcfncambaaWWords
import Derived.Laws.StructEq
namespace Go.Proofs.YtpkbamcfncambaaW.PrintWords
open Go.RowKit
section
variable {P : Program} {d : Nat} {xs ys : Array Value} {f : Field} {fs : List Field} {a b : Value} {r s : Bool} {w : World}
end
end Go.Proofs.YtpkbamcfncambaaW.PrintWords
