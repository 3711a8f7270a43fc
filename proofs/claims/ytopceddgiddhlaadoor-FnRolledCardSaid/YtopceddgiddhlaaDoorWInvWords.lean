/- Words of the kit's printer, cut by a program of mine (prunew.py) down to what this claim uses. -/
import Derived.Test.YtopceddgiddhlaaDoorWInv
import Derived.Test.YtopceddgiddhlaaDoorWFootNe
namespace Go.Proofs.YtopceddgiddhlaaDoorW.PrintWords
open Go.RowKit
end Go.Proofs.YtopceddgiddhlaaDoorW.PrintWords
namespace Go.Proofs.YtopceddgiddhlaaDoorW.PrintLast
section
variable {ops : Array Oper} {a : Act} {o og : Oper} {g : Nat} {t : Tmp} {u : Bool}
end
end Go.Proofs.YtopceddgiddhlaaDoorW.PrintLast
