-- Words of the print, less those that no text here names (wip/bin/shake.py)
import Derived.Test.YtgfjjhfkgfnpaaaWWords
import Derived.Laws.StructEq
/-! ### 53. '==' of structs as_ one Bool -/
namespace Go.Proofs.YtgfjjhfkgfnpaaaW.PrintWords
open Go.RowKit
section
variable {P : Program} {d : Nat} {xs ys : Array Value} {f : Field} {fs : List Field} {a b : Value} {r s : Bool} {w : World}
end
end Go.Proofs.YtgfjjhfkgfnpaaaW.PrintWords
