/- Words of the kit's printer, cut by a program of mine (prunew.py) down to what this claim uses. -/
import Derived.Test.YtgfobaggkkjhpaaDoorWInv
import Derived.Test.YtgfobaggkkjhpaaDoorWFootNe
namespace Go.Proofs.YtgfobaggkkjhpaaDoorW.PrintWords
open Go.RowKit
end Go.Proofs.YtgfobaggkkjhpaaDoorW.PrintWords
namespace Go.Proofs.YtgfobaggkkjhpaaDoorW.PrintLast
section
variable {ops : Array Oper} {a : Act} {o og : Oper} {g : Nat} {t : Tmp} {u : Bool}
end
end Go.Proofs.YtgfobaggkkjhpaaDoorW.PrintLast
