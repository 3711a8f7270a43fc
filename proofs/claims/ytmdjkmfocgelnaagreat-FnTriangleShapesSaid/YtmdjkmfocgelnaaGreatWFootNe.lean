/- Words of the kit's printer, cut by a program of mine (prunew.py) down to what this claim uses. -/
import Derived.Test.YtmdjkmfocgelnaaGreatWN
namespace Go.Proofs.YtmdjkmfocgelnaaGreatW.PrintWords
open Go.RowKit
namespace Kd
section
variable {α : Type} {d : Kd α} {W : World} {g n : Nat} {S ok : Nat → Prop} {A : Option Addr} {ad : Addr} {xs : List α}
end
end Kd
end Go.Proofs.YtmdjkmfocgelnaaGreatW.PrintWords
