-- Words of the print, less those that no text here names (wip/bin/shake.py)
import Derived.Test.YtgfjjhfkgfnpaaaWTab
/-! ### 56. Four, five, six operations that may come up next, in any order -/
namespace Go.Proofs.YtgfjjhfkgfnpaaaW.PrintLast
section
variable {P : Program} {ops : Array Oper} {Q : Exit → Act → World → Prop} {md : Region.Mode} {S : World → Prop} {ds : List Nat} {T : Bool × List (List Nat × List Nat)}
end
end Go.Proofs.YtgfjjhfkgfnpaaaW.PrintLast
