/- Words of the kit's printer, cut by a program of mine (prunew.py) down to what this claim uses. -/
import Derived.Test.YtfpofjckpbmcjaaDoorWInv
import Derived.Test.YtfpofjckpbmcjaaDoorWFootNe
namespace Go.Proofs.YtfpofjckpbmcjaaDoorW.PrintWords
open Go.RowKit
end Go.Proofs.YtfpofjckpbmcjaaDoorW.PrintWords
namespace Go.Proofs.YtfpofjckpbmcjaaDoorW.PrintLast
section
variable {ops : Array Oper} {a : Act} {o og : Oper} {g : Nat} {t : Tmp} {u : Bool}
end
end Go.Proofs.YtfpofjckpbmcjaaDoorW.PrintLast
