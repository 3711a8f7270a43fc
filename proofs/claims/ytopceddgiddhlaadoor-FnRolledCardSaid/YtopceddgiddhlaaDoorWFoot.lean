/- Words of the kit's printer, cut by a program of mine (prunew.py) down to what this claim uses. -/
import Derived.Test.YtopceddgiddhlaaDoorWApart
import Derived.Test.YtopceddgiddhlaaDoorWArr
namespace Go.Proofs.YtopceddgiddhlaaDoorW.PrintWords
open Go.RowKit
namespace Kd
section
variable {α : Type} {d : Kd α} {e base g n c : Nat} {ok : Nat → Prop} {w w0 W : World} {A : Option Addr} {xs : List α}
end
end Kd
end Go.Proofs.YtopceddgiddhlaaDoorW.PrintWords
