-- cut down by wip/pk/prune.py from the words that the kit's print lays
import Derived.SizedLaws
import Derived.ChangeSlices
namespace Go.Proofs.YtpkbamcfncambaaW.PrintWords
open Go.ChangeShapes Go.WideShapes
end Go.Proofs.YtpkbamcfncambaaW.PrintWords
