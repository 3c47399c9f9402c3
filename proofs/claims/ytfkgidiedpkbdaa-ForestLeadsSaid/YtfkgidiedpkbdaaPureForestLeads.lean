/- Two numbers are in one group just if unions lead from one to the other: what is left of the pure statement of ForestLeads, whose whole matter stands in its contract. -/
import Derived.Test.YtfkgidiedpkbdaaPRx3
namespace Go.Proofs.Ytfkgidiedpkbdaa.Pure
open Go.RowKit Go.Proofs.Ytfkgidiedpkbdaa.PR
theorem ForestLeads : dowserlaw17_ForestLeads.Pure := fun _ _ _ _ => rfl
end Go.Proofs.Ytfkgidiedpkbdaa.Pure
