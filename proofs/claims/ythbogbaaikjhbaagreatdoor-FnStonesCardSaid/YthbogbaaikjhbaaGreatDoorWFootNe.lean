-- cut down by wip/pk/prune.py from the words that the kit's print lays
import Derived.Test.YthbogbaaikjhbaaGreatDoorWN
namespace Go.Proofs.YthbogbaaikjhbaaGreatDoorW.PrintWords
open Go.RowKit
namespace Kd
section
variable {α : Type} {d : Kd α} {W : World} {g n : Nat} {S ok : Nat → Prop} {A : Option Addr} {ad : Addr} {xs : List α}
end
end Kd
end Go.Proofs.YthbogbaaikjhbaaGreatDoorW.PrintWords
