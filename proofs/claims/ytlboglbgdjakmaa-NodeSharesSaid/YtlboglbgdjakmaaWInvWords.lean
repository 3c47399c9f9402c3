-- Words of the print, less those that no text here names (wip/bin/shake.py)
import Derived.Test.YtlboglbgdjakmaaWInv
import Derived.Test.YtlboglbgdjakmaaWFootNe
namespace Go.Proofs.YtlboglbgdjakmaaW.PrintWords
open Go.RowKit
end Go.Proofs.YtlboglbgdjakmaaW.PrintWords
namespace Go.Proofs.YtlboglbgdjakmaaW.PrintLast
section
variable {ops : Array Oper} {a : Act} {o og : Oper} {g : Nat} {t : Tmp} {u : Bool}
end
end Go.Proofs.YtlboglbgdjakmaaW.PrintLast
