-- Written by this session's own program wip/bin/dprint.py, over the kit's print.py, with own texts for some functions: no print of print.sh's
import Derived.Test.YtiikmomjggcdfaaProg
import Derived.Below
import Derived.Deep.Draws
import Derived.Deep.AppendLies
import Derived.Maps.AppendAt
import Derived.OwnWalk
import Derived.Laws.BytesArg
import Derived.Laws.MakeOwn
import Derived.Laws.OwnMore
import Derived.Deep.OwnRows
import Derived.Tactics
import Derived.Lib.ConvBytes
import Derived.Laws.Slices
import Derived.WalkKit
import Derived.KernelRfl
import Derived.RowKit3
import Derived.Deep.LoopGhost
import Derived.Deep.QuietTactic
import Derived.BigQuiet
import Derived.WideLaws
import Derived.Deep.DeepCutAuto
import Derived.Deep.CutBlock
import Derived.Deep.RegionHeld3
import Derived.Laws.Rows
import Derived.Lib.AppendStr
import Derived.ArgAppend
import Derived.Laws.IdiomCopy
import Derived.OrdersHeld
import Derived.Laws.BitsLemmas
import Derived.RowKit
import Derived.WalkLawsBesides
import Derived.Laws.Externs
import Derived.Test.YtiikmomjggcdfaaShelf
import Derived.Test.YtiikmomjggcdfaaWWords
import Derived.Test.YtiikmomjggcdfaaWLast
import Derived.Test.YtiikmomjggcdfaaWTab
import Derived.Test.YtiikmomjggcdfaaWFour
import Derived.Test.YtiikmomjggcdfaaWQPut
import Derived.Test.YtiikmomjggcdfaaWApart
import Derived.Test.YtiikmomjggcdfaaWArr
import Derived.Test.YtiikmomjggcdfaaWZeros
import Derived.Test.YtiikmomjggcdfaaWFoot
import Derived.Test.YtiikmomjggcdfaaWKept
import Derived.Test.YtiikmomjggcdfaaWShare
import Derived.Test.YtiikmomjggcdfaaWN
import Derived.Test.YtiikmomjggcdfaaWFootNe
import Derived.Test.YtiikmomjggcdfaaWAt
import Derived.Test.YtiikmomjggcdfaaWEqStruct
import Derived.Test.YtiikmomjggcdfaaWRepsOne
import Derived.Test.YtiikmomjggcdfaaWInv
import Derived.Test.YtiikmomjggcdfaaWInvWords
import Derived.Test.YtiikmomjggcdfaaWGuard
import Derived.Test.YtiikmomjggcdfaaWNEv
import Derived.Test.YtiikmomjggcdfaaWMore
namespace Go.Proofs.Ytiikmomjggcdfaa.PA
open Go.RowKit Go.Proofs.YtiikmomjggcdfaaW.PrintWords Go.Proofs.YtiikmomjggcdfaaW.PrintLast Go.Proofs.YtiikmomjggcdfaaW.PrintMore
attribute [local go_sem] max2_int min2_int max_two min_two max_three min_three max_four min_four   -- for this text's walks alone
set_option linter.unusedVariables false
set_option linter.unusedSimpArgs false



def errW : Option Int → Value
  | none => .nilIface
  | some c => .iface 0 (.int .i64 c)
theorem errW_none : errW none = .nilIface := rfl
theorem errW_some (c : Int) : errW (some c) = .iface 0 (.int .i64 c) := rfl

theorem info3 : (Try.prog.info? 3).map (fun i => (i.zero, i.size, i.bytes)) = some (some (.int .i64 0), 1, 8) := by kernel_rfl
theorem info24 : (Try.prog.info? 24).map (fun i => (i.zero, i.size, i.bytes)) = some (some (.float .f64 0), 1, 8) := by kernel_rfl
-- the values' own types
def kFloat : Kd Nat := Kd.scalar (Value.float .f64) (fun _ => rfl)
theorem kFloat_heap : Kd.Heap kFloat := ⟨fun _ h => h⟩
theorem at_kFloat {w : World} {A : Option Addr} {n : Nat} {xs : List Nat} (h : Kd.C kFloat w A n xs) (i : Int) (h0 : 0 ≤ i) (h1 : i < n) : ∃ ad, A = some ad ∧ w.cell? (ad.add i.toNat) = some (.float .f64 (rdOf (0 : Nat) xs i)) := ReadsOf.at_ (Kd.reads_of_C (enc := Value.float .f64) (d := (0 : Nat)) (h1 := fun _ => rfl) h) i h0 h1

theorem unary_negf (b : Nat) : Op.unary .neg (.float .f64 b) = pure (.float .f64 (Op.negFloat .f64 b)) := rfl
end Go.Proofs.Ytiikmomjggcdfaa.PA
