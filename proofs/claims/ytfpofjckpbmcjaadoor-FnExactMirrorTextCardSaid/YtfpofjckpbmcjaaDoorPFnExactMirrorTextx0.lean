/- Over the kit's printer by a driver of mine (hprint.py), with parts by hand: functions of the program as Lean functions, and that each call comes to exactly these answers. -/
import Derived.Test.YtfpofjckpbmcjaaDoorProg
import Derived.Below
import Derived.Deep.Draws
import Derived.Deep.AppendLies
import Derived.Maps.AppendAt
import Derived.OwnWalk
import Derived.Laws.BytesArg
import Derived.Laws.MakeOwn
import Derived.Laws.OwnMore
import Derived.Deep.OwnRows
import Derived.Tactics
import Derived.Lib.ConvBytes
import Derived.Laws.Slices
import Derived.WalkKit
import Derived.KernelRfl
import Derived.RowKit3
import Derived.Deep.LoopGhost
import Derived.Deep.QuietTactic
import Derived.BigQuiet
import Derived.WideLaws
import Derived.Deep.DeepCutAuto
import Derived.Deep.CutBlock
import Derived.Deep.RegionHeld3
import Derived.Laws.Rows
import Derived.Lib.AppendStr
import Derived.ArgAppend
import Derived.Laws.IdiomCopy
import Derived.OrdersHeld
import Derived.Laws.BitsLemmas
import Derived.RowKit
import Derived.Test.YtfpofjckpbmcjaaDoorHMake
import Derived.Test.YtfpofjckpbmcjaaDoorShelf
import Derived.Test.YtfpofjckpbmcjaaDoorShelfG
import Derived.Test.YtfpofjckpbmcjaaDoorHMap
import Derived.Lib.SplitLaws
import Derived.Lib.OwnBridge
import Derived.WalkSmall
import Derived.Test.YtfpofjckpbmcjaaDoorWWords
import Derived.Test.YtfpofjckpbmcjaaDoorWLast
import Derived.Test.YtfpofjckpbmcjaaDoorWTab
import Derived.Test.YtfpofjckpbmcjaaDoorWFour
import Derived.Test.YtfpofjckpbmcjaaDoorWQPut
import Derived.Test.YtfpofjckpbmcjaaDoorWApart
import Derived.Test.YtfpofjckpbmcjaaDoorWArr
import Derived.Test.YtfpofjckpbmcjaaDoorWZeros
import Derived.Test.YtfpofjckpbmcjaaDoorWFoot
import Derived.Test.YtfpofjckpbmcjaaDoorWKept
import Derived.Test.YtfpofjckpbmcjaaDoorWShare
import Derived.Test.YtfpofjckpbmcjaaDoorWN
import Derived.Test.YtfpofjckpbmcjaaDoorWFootNe
import Derived.Test.YtfpofjckpbmcjaaDoorWAt
import Derived.Test.YtfpofjckpbmcjaaDoorWEqStruct
import Derived.Test.YtfpofjckpbmcjaaDoorWRepsOne
import Derived.Test.YtfpofjckpbmcjaaDoorWInv
import Derived.Test.YtfpofjckpbmcjaaDoorWInvWords
import Derived.Test.YtfpofjckpbmcjaaDoorWGuard
import Derived.Test.YtfpofjckpbmcjaaDoorWNEv
import Derived.Test.YtfpofjckpbmcjaaDoorWMore
namespace Go.Proofs.YtfpofjckpbmcjaaDoor.PFnExactMirrorText
open Go.RowKit Go.Proofs.YtfpofjckpbmcjaaDoorW.PrintWords Go.Proofs.YtfpofjckpbmcjaaDoorW.PrintLast Go.Proofs.YtfpofjckpbmcjaaDoorW.PrintMore
attribute [local go_sem] max2_int min2_int max_two min_two max_three min_three max_four min_four   -- for this text's walks alone
set_option linter.unusedVariables false
set_option linter.unusedSimpArgs false



def errW : Option Int → Value
  | none => .nilIface
  | some c => .iface 0 (.int .i64 c)
theorem errW_none : errW none = .nilIface := rfl
theorem errW_some (c : Int) : errW (some c) = .iface 0 (.int .i64 c) := rfl

theorem info5 : (Tryd.prog.info? 5).map (fun i => (i.zero, i.size, i.bytes)) = some (some (.int .u8 0), 1, 1) := by kernel_rfl
theorem info9 : (Tryd.prog.info? 9).map (fun i => (i.zero, i.size, i.bytes)) = some (some (.string ⟨#[]⟩), 1, 16) := by kernel_rfl
-- the values' own types

end Go.Proofs.YtfpofjckpbmcjaaDoor.PFnExactMirrorText
