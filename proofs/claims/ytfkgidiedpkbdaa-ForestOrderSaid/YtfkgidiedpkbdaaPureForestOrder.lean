/- In whatever order numbers are united, the groups are the same: what is left of the pure statement of ForestOrder, whose whole matter stands in its contract. -/
import Derived.Test.YtfkgidiedpkbdaaPOx2
namespace Go.Proofs.Ytfkgidiedpkbdaa.Pure
open Go.RowKit Go.Proofs.Ytfkgidiedpkbdaa.PO
theorem ForestOrder : dowserlaw17_ForestOrder.Pure := fun _ _ _ _ => rfl
end Go.Proofs.Ytfkgidiedpkbdaa.Pure
