-- cut down by wip/pk/prune.py from the words that the kit's print lays
import Derived.Test.YthbogbaaikjhbaaGreatDoorWTab
namespace Go.Proofs.YthbogbaaikjhbaaGreatDoorW.PrintLast
/-- Number i is listed too. -/
def up (b : Nat → Bool) (i : Nat) : Nat → Bool := fun j => if j = i then true else b j
section
variable {P : Program} {ops : Array Oper} {Q : Exit → Act → World → Prop} {md : Region.Mode} {T : Bool × List (List Nat × List Nat)} {B : List Nat} {O : List Nat} {b : Nat → Bool} {i j n : Nat}
end
end Go.Proofs.YthbogbaaikjhbaaGreatDoorW.PrintLast
