/- A chain of unions makes one group, however it goes; one pair less leaves two: what is left of the pure statement of ForestRing, whose whole matter stands in its contract. -/
import Derived.Test.YtfkgidiedpkbdaaPFx2
namespace Go.Proofs.Ytfkgidiedpkbdaa.Pure
open Go.RowKit Go.Proofs.Ytfkgidiedpkbdaa.PF
theorem ForestRing : dowserlaw17_ForestRing.Pure := fun _ _ _ _ _ _ => rfl
end Go.Proofs.Ytfkgidiedpkbdaa.Pure
