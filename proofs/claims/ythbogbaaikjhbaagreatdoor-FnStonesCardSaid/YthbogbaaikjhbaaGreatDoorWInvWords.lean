-- cut down by wip/pk/prune.py from the words that the kit's print lays
import Derived.Test.YthbogbaaikjhbaaGreatDoorWInv
import Derived.Test.YthbogbaaikjhbaaGreatDoorWFootNe
namespace Go.Proofs.YthbogbaaikjhbaaGreatDoorW.PrintWords
open Go.RowKit
end Go.Proofs.YthbogbaaikjhbaaGreatDoorW.PrintWords
namespace Go.Proofs.YthbogbaaikjhbaaGreatDoorW.PrintLast
section
variable {ops : Array Oper} {a : Act} {o og : Oper} {g : Nat} {t : Tmp} {u : Bool}
end
end Go.Proofs.YthbogbaaikjhbaaGreatDoorW.PrintLast
