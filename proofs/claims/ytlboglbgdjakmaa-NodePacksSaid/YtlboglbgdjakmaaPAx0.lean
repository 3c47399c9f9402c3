-- Written by this session's own program wip/bin/dprint.py, over the kit's print.py, with own texts for some functions: no print of print.sh's
import Derived.Test.YtlboglbgdjakmaaProg
import Derived.Below
import Derived.Deep.Draws
import Derived.Deep.AppendLies
import Derived.Maps.AppendAt
import Derived.OwnWalk
import Derived.Laws.BytesArg
import Derived.Laws.MakeOwn
import Derived.Laws.OwnMore
import Derived.Deep.OwnRows
import Derived.Tactics
import Derived.Lib.ConvBytes
import Derived.Laws.Slices
import Derived.WalkKit
import Derived.KernelRfl
import Derived.RowKit3
import Derived.Deep.LoopGhost
import Derived.Deep.QuietTactic
import Derived.BigQuiet
import Derived.WideLaws
import Derived.Deep.DeepCutAuto
import Derived.Deep.CutBlock
import Derived.Deep.RegionHeld3
import Derived.Laws.Rows
import Derived.Lib.AppendStr
import Derived.ArgAppend
import Derived.Laws.IdiomCopy
import Derived.OrdersHeld
import Derived.Laws.BitsLemmas
import Derived.RowKit
import Derived.WalkLawsBesides
import Derived.Test.YtlboglbgdjakmaaBld
import Derived.Test.YtlboglbgdjakmaaWWords
import Derived.Test.YtlboglbgdjakmaaWLast
import Derived.Test.YtlboglbgdjakmaaWTab
import Derived.Test.YtlboglbgdjakmaaWFour
import Derived.Test.YtlboglbgdjakmaaWQPut
import Derived.Test.YtlboglbgdjakmaaWApart
import Derived.Test.YtlboglbgdjakmaaWArr
import Derived.Test.YtlboglbgdjakmaaWZeros
import Derived.Test.YtlboglbgdjakmaaWFoot
import Derived.Test.YtlboglbgdjakmaaWKept
import Derived.Test.YtlboglbgdjakmaaWShare
import Derived.Test.YtlboglbgdjakmaaWN
import Derived.Test.YtlboglbgdjakmaaWFootNe
import Derived.Test.YtlboglbgdjakmaaWAt
import Derived.Test.YtlboglbgdjakmaaWEqStruct
import Derived.Test.YtlboglbgdjakmaaWRepsOne
import Derived.Test.YtlboglbgdjakmaaWInv
import Derived.Test.YtlboglbgdjakmaaWInvWords
import Derived.Test.YtlboglbgdjakmaaWGuard
import Derived.Test.YtlboglbgdjakmaaWNEv
import Derived.Test.YtlboglbgdjakmaaWMore
namespace Go.Proofs.Ytlboglbgdjakmaa.PA
open Go.RowKit Go.Proofs.YtlboglbgdjakmaaW.PrintWords Go.Proofs.YtlboglbgdjakmaaW.PrintLast Go.Proofs.YtlboglbgdjakmaaW.PrintMore
attribute [local go_sem] max2_int min2_int max_two min_two max_three min_three max_four min_four   -- for this text's walks alone
set_option linter.unusedVariables false
set_option linter.unusedSimpArgs false



def errW : Option Int → Value
  | none => .nilIface
  | some c => .iface 0 (.int .i64 c)
theorem errW_none : errW none = .nilIface:=rfl
theorem errW_some (c : Int) : errW (some c) = .iface 0 (.int .i64 c):=rfl

theorem info3 : (Try.prog.info? 3).map (fun i => (i.zero,i.size,i.bytes)) = some (some (.int .i64 0),1,8):=by kernel_rfl
theorem info5 : (Try.prog.info? 5).map (fun i => (i.zero,i.size,i.bytes)) = some (some (.int .u8 0),1,1):=by kernel_rfl
theorem info9 : (Try.prog.info? 9).map (fun i => (i.zero,i.size,i.bytes)) = some (some (.string ⟨#[]⟩),1,16):=by kernel_rfl
-- the values' own types

end Go.Proofs.Ytlboglbgdjakmaa.PA
