/- Words of the kit's printer, cut by a program of mine (prunew.py) down to what this claim uses. -/
import Derived.Test.YtmdjkmfocgelnaaGreatWApart
import Derived.Test.YtmdjkmfocgelnaaGreatWArr
namespace Go.Proofs.YtmdjkmfocgelnaaGreatW.PrintWords
open Go.RowKit
namespace Kd
section
variable {α : Type} {d : Kd α} {e base g n c : Nat} {ok : Nat → Prop} {w w0 W : World} {A : Option Addr} {xs : List α}
end
end Kd
end Go.Proofs.YtmdjkmfocgelnaaGreatW.PrintWords
