/- The fixed fact at the head of the laws on sets holds. -/
import Derived.Test.YtgjncbnjgmfjeaaPAx15
import Derived.Test.YtgjncbnjgmfjeaaIdsPlain
import Derived.Test.YtgjncbnjgmfjeaaIdsRef
namespace Go.Proofs.Ytgjncbnjgmfjeaa.IdsAwake
open Go.RowKit Go.Proofs.Ytgjncbnjgmfjeaa.PA Go.Proofs.Ytgjncbnjgmfjeaa.IdsPlain Go.Proofs.Ytgjncbnjgmfjeaa.IdsRef Go.Proofs.YtgjncbnjgmfjeaaW.PrintWords Go.Proofs.YtgjncbnjgmfjeaaW.PrintLast
theorem awake_f (k : Nat) (hk : 10 < k) : dowserlaw04_awake.f k = some true := by
  unfold dowserlaw04_awake.f
  have h1 : setOf [3, 1, 3] = [1, 3] := by decide
  have h2 : ids_Union.f [1, 3] [2, 3] = some [1, 2, 3] := by decide
  rw [iof_f _ (by decide), h1, Option.bind_some, same_f k _ _ (by decide) (by simp; omega), Option.bind_some, if_pos (by decide), h2, Option.bind_some, same_f k _ _ (by decide) (by simp; omega), Option.bind_some]
  rfl
theorem few_len (l : List Int) : (l.take 40).length ≤ 40 := by rw [List.length_take]; omega
end Go.Proofs.Ytgjncbnjgmfjeaa.IdsAwake
