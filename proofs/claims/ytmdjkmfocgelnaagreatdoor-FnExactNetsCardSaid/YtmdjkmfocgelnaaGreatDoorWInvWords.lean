/- Words of the kit's printer, cut by a program of mine (prunew.py) down to what this claim uses. -/
import Derived.Test.YtmdjkmfocgelnaaGreatDoorWInv
import Derived.Test.YtmdjkmfocgelnaaGreatDoorWFootNe
namespace Go.Proofs.YtmdjkmfocgelnaaGreatDoorW.PrintWords
open Go.RowKit
end Go.Proofs.YtmdjkmfocgelnaaGreatDoorW.PrintWords
namespace Go.Proofs.YtmdjkmfocgelnaaGreatDoorW.PrintLast
section
variable {ops : Array Oper} {a : Act} {o og : Oper} {g : Nat} {t : Tmp} {u : Bool}
end
end Go.Proofs.YtmdjkmfocgelnaaGreatDoorW.PrintLast
