/- Words of the kit's printer, cut by a program of mine (prunew.py) down to what this claim uses. -/
import Derived.Test.YtopceddgiddhlaaWInv
import Derived.Test.YtopceddgiddhlaaWFootNe
namespace Go.Proofs.YtopceddgiddhlaaW.PrintWords
open Go.RowKit
end Go.Proofs.YtopceddgiddhlaaW.PrintWords
namespace Go.Proofs.YtopceddgiddhlaaW.PrintLast
section
variable {ops : Array Oper} {a : Act} {o og : Oper} {g : Nat} {t : Tmp} {u : Bool}
end
end Go.Proofs.YtopceddgiddhlaaW.PrintLast
