/- Words of the kit's printer, cut by a program of mine (prunew.py) down to what this claim uses. -/
import Derived.Test.YtaaodakmelihaaaWInv
import Derived.Test.YtaaodakmelihaaaWFootNe
namespace Go.Proofs.YtaaodakmelihaaaW.PrintWords
open Go.RowKit
end Go.Proofs.YtaaodakmelihaaaW.PrintWords
namespace Go.Proofs.YtaaodakmelihaaaW.PrintLast
section
variable {ops : Array Oper} {a : Act} {o og : Oper} {g : Nat} {t : Tmp} {u : Bool}
end
end Go.Proofs.YtaaodakmelihaaaW.PrintLast
