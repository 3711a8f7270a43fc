/- Words of the kit's printer, cut by a program of mine (deadwood.py) down to what this claim uses. -/
import Derived.Test.YtmdjkmfocgelnaaGreatDoorWTab
namespace Go.Proofs.YtmdjkmfocgelnaaGreatDoorW.PrintLast
def up (b : Nat → Bool) (i : Nat) : Nat → Bool := fun j => if j = i then true else b j
section
variable {P : Program} {ops : Array Oper} {Q : Exit → Act → World → Prop} {md : Region.Mode} {T : Bool × List (List Nat × List Nat)} {B : List Nat} {O : List Nat} {b : Nat → Bool} {i j n : Nat}
end
end Go.Proofs.YtmdjkmfocgelnaaGreatDoorW.PrintLast
