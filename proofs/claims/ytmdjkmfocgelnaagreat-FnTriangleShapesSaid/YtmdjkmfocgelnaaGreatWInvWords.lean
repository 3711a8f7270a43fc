/- Words of the kit's printer, cut by a program of mine (prunew.py) down to what this claim uses. -/
import Derived.Test.YtmdjkmfocgelnaaGreatWInv
import Derived.Test.YtmdjkmfocgelnaaGreatWFootNe
namespace Go.Proofs.YtmdjkmfocgelnaaGreatW.PrintWords
open Go.RowKit
end Go.Proofs.YtmdjkmfocgelnaaGreatW.PrintWords
namespace Go.Proofs.YtmdjkmfocgelnaaGreatW.PrintLast
section
variable {ops : Array Oper} {a : Act} {o og : Oper} {g : Nat} {t : Tmp} {u : Bool}
end
end Go.Proofs.YtmdjkmfocgelnaaGreatW.PrintLast
