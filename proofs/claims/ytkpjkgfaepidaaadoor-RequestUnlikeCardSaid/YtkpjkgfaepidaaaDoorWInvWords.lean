-- Words of the print, less those that no text here names (wip/bin/shake.py)
import Derived.Test.YtkpjkgfaepidaaaDoorWInv
import Derived.Test.YtkpjkgfaepidaaaDoorWFootNe
namespace Go.Proofs.YtkpjkgfaepidaaaDoorW.PrintWords
open Go.RowKit
end Go.Proofs.YtkpjkgfaepidaaaDoorW.PrintWords
namespace Go.Proofs.YtkpjkgfaepidaaaDoorW.PrintLast
section
variable {ops : Array Oper} {a : Act} {o og : Oper} {g : Nat} {t : Tmp} {u : Bool}
end
end Go.Proofs.YtkpjkgfaepidaaaDoorW.PrintLast
