/- Words of the kit's printer, cut by a program of mine (prunew.py) down to what this claim uses. -/
import Derived.Test.YtfpofjckpbmcjaaWInv
import Derived.Test.YtfpofjckpbmcjaaWFootNe
namespace Go.Proofs.YtfpofjckpbmcjaaW.PrintWords
open Go.RowKit
end Go.Proofs.YtfpofjckpbmcjaaW.PrintWords
namespace Go.Proofs.YtfpofjckpbmcjaaW.PrintLast
section
variable {ops : Array Oper} {a : Act} {o og : Oper} {g : Nat} {t : Tmp} {u : Bool}
end
end Go.Proofs.YtfpofjckpbmcjaaW.PrintLast
