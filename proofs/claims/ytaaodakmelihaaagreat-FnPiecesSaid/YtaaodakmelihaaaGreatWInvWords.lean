/- Words of the kit's printer, cut by a program of mine (prunew.py) down to what this claim uses. -/
import Derived.Test.YtaaodakmelihaaaGreatWInv
import Derived.Test.YtaaodakmelihaaaGreatWFootNe
namespace Go.Proofs.YtaaodakmelihaaaGreatW.PrintWords
open Go.RowKit
end Go.Proofs.YtaaodakmelihaaaGreatW.PrintWords
namespace Go.Proofs.YtaaodakmelihaaaGreatW.PrintLast
section
variable {ops : Array Oper} {a : Act} {o og : Oper} {g : Nat} {t : Tmp} {u : Bool}
end
end Go.Proofs.YtaaodakmelihaaaGreatW.PrintLast
