-- Written by this session's own program wip/bin/dprint.py, over the kit's print.py, with own texts for some functions: no print of print.sh's
import Derived.Test.YtgjncbnjgmfjeaaProg
import Derived.Below
import Derived.Deep.Draws
import Derived.Deep.AppendLies
import Derived.Maps.AppendAt
import Derived.OwnWalk
import Derived.Laws.BytesArg
import Derived.Laws.MakeOwn
import Derived.Laws.OwnMore
import Derived.Deep.OwnRows
import Derived.Tactics
import Derived.Lib.ConvBytes
import Derived.Laws.Slices
import Derived.WalkKit
import Derived.KernelRfl
import Derived.RowKit3
import Derived.Deep.LoopGhost
import Derived.Deep.QuietTactic
import Derived.BigQuiet
import Derived.WideLaws
import Derived.Deep.DeepCutAuto
import Derived.Deep.CutBlock
import Derived.Deep.RegionHeld3
import Derived.Laws.Rows
import Derived.Lib.AppendStr
import Derived.ArgAppend
import Derived.Laws.IdiomCopy
import Derived.OrdersHeld
import Derived.Laws.BitsLemmas
import Derived.RowKit
import Derived.WalkLawsBesides
import Derived.Laws.Externs
import Derived.OneCell
import Derived.Test.YtgjncbnjgmfjeaaShelf
import Derived.Test.YtgjncbnjgmfjeaaWWords
import Derived.Test.YtgjncbnjgmfjeaaWLast
import Derived.Test.YtgjncbnjgmfjeaaWTab
import Derived.Test.YtgjncbnjgmfjeaaWFour
import Derived.Test.YtgjncbnjgmfjeaaWQPut
import Derived.Test.YtgjncbnjgmfjeaaWApart
import Derived.Test.YtgjncbnjgmfjeaaWArr
import Derived.Test.YtgjncbnjgmfjeaaWZeros
import Derived.Test.YtgjncbnjgmfjeaaWFoot
import Derived.Test.YtgjncbnjgmfjeaaWKept
import Derived.Test.YtgjncbnjgmfjeaaWShare
import Derived.Test.YtgjncbnjgmfjeaaWN
import Derived.Test.YtgjncbnjgmfjeaaWFootNe
import Derived.Test.YtgjncbnjgmfjeaaWAt
import Derived.Test.YtgjncbnjgmfjeaaWEqStruct
import Derived.Test.YtgjncbnjgmfjeaaWRepsOne
import Derived.Test.YtgjncbnjgmfjeaaWInv
import Derived.Test.YtgjncbnjgmfjeaaWInvWords
import Derived.Test.YtgjncbnjgmfjeaaWGuard
import Derived.Test.YtgjncbnjgmfjeaaWNEv
import Derived.Test.YtgjncbnjgmfjeaaWMore
namespace Go.Proofs.Ytgjncbnjgmfjeaa.PA
open Go.RowKit Go.Proofs.YtgjncbnjgmfjeaaW.PrintWords Go.Proofs.YtgjncbnjgmfjeaaW.PrintLast Go.Proofs.YtgjncbnjgmfjeaaW.PrintMore
attribute [local go_sem] max2_int min2_int max_two min_two max_three min_three max_four min_four   -- for this text's walks alone
set_option linter.unusedVariables false
set_option linter.unusedSimpArgs false



def errW : Option Int → Value
  | none => .nilIface
  | some c => .iface 0 (.int .i64 c)
theorem errW_none : errW none = .nilIface := rfl
theorem errW_some (c : Int) : errW (some c) = .iface 0 (.int .i64 c) := rfl

theorem info3 : (Try.prog.info? 3).map (fun i => (i.zero, i.size, i.bytes)) = some (some (.int .i64 0), 1, 8) := by kernel_rfl
-- the values' own types

end Go.Proofs.Ytgjncbnjgmfjeaa.PA
