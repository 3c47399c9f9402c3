-- Written by this session's own program wip/bin/dprint.py, over the kit's print.py, with own texts for some functions: no print of print.sh's
import Derived.Test.YtefiadhmcdfdoaaProg
import Derived.Below
import Derived.Deep.Draws
import Derived.Deep.AppendLies
import Derived.Maps.AppendAt
import Derived.OwnWalk
import Derived.Laws.BytesArg
import Derived.Laws.MakeOwn
import Derived.Laws.OwnMore
import Derived.Deep.OwnRows
import Derived.Tactics
import Derived.Lib.ConvBytes
import Derived.Laws.Slices
import Derived.WalkKit
import Derived.KernelRfl
import Derived.RowKit3
import Derived.Deep.LoopGhost
import Derived.Deep.QuietTactic
import Derived.BigQuiet
import Derived.WideLaws
import Derived.Deep.DeepCutAuto
import Derived.Deep.CutBlock
import Derived.Deep.RegionHeld3
import Derived.Laws.Rows
import Derived.Lib.AppendStr
import Derived.ArgAppend
import Derived.Laws.IdiomCopy
import Derived.OrdersHeld
import Derived.Laws.BitsLemmas
import Derived.RowKit
import Derived.Test.YtefiadhmcdfdoaaBld
import Derived.Test.YtefiadhmcdfdoaaWWords
import Derived.Test.YtefiadhmcdfdoaaWLast
import Derived.Test.YtefiadhmcdfdoaaWTab
import Derived.Test.YtefiadhmcdfdoaaWFour
import Derived.Test.YtefiadhmcdfdoaaWQPut
import Derived.Test.YtefiadhmcdfdoaaWApart
import Derived.Test.YtefiadhmcdfdoaaWArr
import Derived.Test.YtefiadhmcdfdoaaWZeros
import Derived.Test.YtefiadhmcdfdoaaWFoot
import Derived.Test.YtefiadhmcdfdoaaWKept
import Derived.Test.YtefiadhmcdfdoaaWShare
import Derived.Test.YtefiadhmcdfdoaaWN
import Derived.Test.YtefiadhmcdfdoaaWFootNe
import Derived.Test.YtefiadhmcdfdoaaWAt
import Derived.Test.YtefiadhmcdfdoaaWEqStruct
import Derived.Test.YtefiadhmcdfdoaaWRepsOne
import Derived.Test.YtefiadhmcdfdoaaWInv
import Derived.Test.YtefiadhmcdfdoaaWInvWords
import Derived.Test.YtefiadhmcdfdoaaWGuard
import Derived.Test.YtefiadhmcdfdoaaWNEv
import Derived.Test.YtefiadhmcdfdoaaWMore
namespace Go.Proofs.Ytefiadhmcdfdoaa.PA
open Go.RowKit Go.Proofs.YtefiadhmcdfdoaaW.PrintWords Go.Proofs.YtefiadhmcdfdoaaW.PrintLast Go.Proofs.YtefiadhmcdfdoaaW.PrintMore
attribute [local go_sem] max2_int min2_int max_two min_two max_three min_three max_four min_four   -- for this text's walks alone
set_option linter.unusedVariables false
set_option linter.unusedSimpArgs false



def errW : Option Int → Value
  | none => .nilIface
  | some c => .iface 0 (.int .i64 c)
theorem errW_none : errW none = .nilIface := rfl
theorem errW_some (c : Int) : errW (some c) = .iface 0 (.int .i64 c) := rfl

theorem info3 : (Try.prog.info? 3).map (fun i => (i.zero, i.size, i.bytes)) = some (some (.int .i64 0), 1, 8) := by kernel_rfl
theorem info5 : (Try.prog.info? 5).map (fun i => (i.zero, i.size, i.bytes)) = some (some (.int .u8 0), 1, 1) := by kernel_rfl
-- the values' own types

end Go.Proofs.Ytefiadhmcdfdoaa.PA
