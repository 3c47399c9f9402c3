-- Written by this session's own program wip/bin/dprint.py, over the kit's print.py, with own texts for some functions: no print of print.sh's
import Derived.Test.YtfkgidiedpkbdaaProg
import Derived.Below
import Derived.Deep.Draws
import Derived.Deep.AppendLies
import Derived.Maps.AppendAt
import Derived.OwnWalk
import Derived.Laws.BytesArg
import Derived.Laws.MakeOwn
import Derived.Laws.OwnMore
import Derived.Deep.OwnRows
import Derived.Tactics
import Derived.Lib.ConvBytes
import Derived.Laws.Slices
import Derived.WalkKit
import Derived.KernelRfl
import Derived.RowKit3
import Derived.Deep.LoopGhost
import Derived.Deep.QuietTactic
import Derived.BigQuiet
import Derived.WideLaws
import Derived.Deep.DeepCutAuto
import Derived.Deep.CutBlock
import Derived.Deep.RegionHeld3
import Derived.Laws.Rows
import Derived.Lib.AppendStr
import Derived.ArgAppend
import Derived.Laws.IdiomCopy
import Derived.OrdersHeld
import Derived.Laws.BitsLemmas
import Derived.RowKit
import Derived.WalkLawsBesides
import Derived.Laws.Externs
import Derived.OneCell
import Derived.Deep.DrawnRows
import Derived.Deep.RegionHeld3
import Derived.Laws.MakeOwn
import Derived.Test.YtfkgidiedpkbdaaWKept
import Derived.Test.YtfkgidiedpkbdaaWWords
import Derived.Test.YtfkgidiedpkbdaaWLast
import Derived.Test.YtfkgidiedpkbdaaWTab
import Derived.Test.YtfkgidiedpkbdaaWFour
import Derived.Test.YtfkgidiedpkbdaaWQPut
import Derived.Test.YtfkgidiedpkbdaaWApart
import Derived.Test.YtfkgidiedpkbdaaWArr
import Derived.Test.YtfkgidiedpkbdaaWZeros
import Derived.Test.YtfkgidiedpkbdaaWFoot
import Derived.Test.YtfkgidiedpkbdaaWKept
import Derived.Test.YtfkgidiedpkbdaaWShare
import Derived.Test.YtfkgidiedpkbdaaWN
import Derived.Test.YtfkgidiedpkbdaaWFootNe
import Derived.Test.YtfkgidiedpkbdaaWAt
import Derived.Test.YtfkgidiedpkbdaaWEqStruct
import Derived.Test.YtfkgidiedpkbdaaWRepsOne
import Derived.Test.YtfkgidiedpkbdaaWInv
import Derived.Test.YtfkgidiedpkbdaaWInvWords
import Derived.Test.YtfkgidiedpkbdaaWGuard
import Derived.Test.YtfkgidiedpkbdaaWNEv
import Derived.Test.YtfkgidiedpkbdaaWMore
namespace Go.Proofs.Ytfkgidiedpkbdaa.PF
open Go.RowKit Go.Proofs.YtfkgidiedpkbdaaW.PrintWords Go.Proofs.YtfkgidiedpkbdaaW.PrintLast Go.Proofs.YtfkgidiedpkbdaaW.PrintMore
attribute [local go_sem] max2_int min2_int max_two min_two max_three min_three max_four min_four   -- for this text's walks alone
set_option linter.unusedVariables false
set_option linter.unusedSimpArgs false



def errW : Option Int → Value
  | none => .nilIface
  | some c => .iface 0 (.int .i64 c)
theorem errW_none : errW none = .nilIface := rfl
theorem errW_some (c : Int) : errW (some c) = .iface 0 (.int .i64 c) := rfl

-- the values' own types

end Go.Proofs.Ytfkgidiedpkbdaa.PF
