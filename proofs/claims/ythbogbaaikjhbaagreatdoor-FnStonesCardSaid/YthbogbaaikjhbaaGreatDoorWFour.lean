-- cut down by wip/pk/prune.py from the words that the kit's print lays
import Derived.Test.YthbogbaaikjhbaaGreatDoorWTab
namespace Go.Proofs.YthbogbaaikjhbaaGreatDoorW.PrintLast
section
variable {P : Program} {ops : Array Oper} {Q : Exit → Act → World → Prop} {md : Region.Mode} {S : World → Prop} {ds : List Nat} {T : Bool × List (List Nat × List Nat)}
end
end Go.Proofs.YthbogbaaikjhbaaGreatDoorW.PrintLast
