/- Behind any unions the groups are the document's, each with its least number and all its members: what is left of the pure statement of ForestPlays, whose whole matter stands in its contract. -/
import Derived.Test.YtfkgidiedpkbdaaPQx5
namespace Go.Proofs.Ytfkgidiedpkbdaa.Pure
open Go.RowKit Go.Proofs.Ytfkgidiedpkbdaa.PQ
theorem ForestPlays : dowserlaw17_ForestPlays.Pure := fun _ _ _ _ => rfl
end Go.Proofs.Ytfkgidiedpkbdaa.Pure
