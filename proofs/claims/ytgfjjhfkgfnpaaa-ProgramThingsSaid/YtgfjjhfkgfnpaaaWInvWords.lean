-- Words of the print, less those that no text here names (wip/bin/shake.py)
import Derived.Test.YtgfjjhfkgfnpaaaWInv
import Derived.Test.YtgfjjhfkgfnpaaaWFootNe
namespace Go.Proofs.YtgfjjhfkgfnpaaaW.PrintWords
open Go.RowKit
end Go.Proofs.YtgfjjhfkgfnpaaaW.PrintWords
namespace Go.Proofs.YtgfjjhfkgfnpaaaW.PrintLast
section
variable {ops : Array Oper} {a : Act} {o og : Oper} {g : Nat} {t : Tmp} {u : Bool}
end
end Go.Proofs.YtgfjjhfkgfnpaaaW.PrintLast
