/- A list's numbers make the document's set; the list stays as it is. Conditions: none beyond the statement's own. -/
import Derived.Test.YtgjncbnjgmfjeaaPAx26
import Derived.Test.YtgjncbnjgmfjeaaIdsPlain
import Derived.Test.YtgjncbnjgmfjeaaIdsRef
import Derived.Test.YtgjncbnjgmfjeaaIdsAwake
namespace Go.Proofs.Ytgjncbnjgmfjeaa.Pure
open Go.RowKit Go.Proofs.Ytgjncbnjgmfjeaa.PA Go.Proofs.Ytgjncbnjgmfjeaa.IdsPlain Go.Proofs.Ytgjncbnjgmfjeaa.IdsRef Go.Proofs.Ytgjncbnjgmfjeaa.IdsAwake Go.Proofs.YtgjncbnjgmfjeaaW.PrintWords Go.Proofs.YtgjncbnjgmfjeaaW.PrintLast
set_option linter.unusedVariables false
theorem IdsSets : dowserlaw04_IdsSets.Pure := by
  intro l0 a1 _ _ _ _
  refine ⟨1000, ?_⟩
  have q0 := few_len l0
  unfold dowserlaw04_IdsSets.f
  rw [awake_f _ (by omega), Option.bind_some, if_pos rfl, Option.bind_some, Option.bind_some]
  generalize l0.take 40 = l at *
  have ls := set_len l
  have rs := set_ris l
  rw [if_pos (by simp; omega), iof_f _ (by omega), Option.bind_some, of_f _ _ (by omega) (by omega), Option.bind_some, same_f _ _ _ (by omega) (by omega), Option.bind_some, decide_eq_true rfl, if_pos rfl]
  rw [is_f _ _ (by omega) (by omega), Option.bind_some, decide_eq_true rs, if_pos rfl, is_f _ _ (by omega) (by omega), Option.bind_some, Option.bind_some, same_f _ _ _ (by omega) (by omega), Option.bind_some]
  have e : decide (Ris l) = decide (l = setOf l) := by
    rw [decide_eq_decide]
    exact ⟨fun h => (set_of_ris h).symm, fun h => by rw [h]; exact rs⟩
  rw [e, beq_self_eq_true, if_pos rfl, ihas_f _ _ _ rs (by omega) (by omega), Option.bind_some, has_f _ _ _ (by omega) (by omega), Option.bind_some]
  have e2 : decide (a1 ∈ setOf l) = decide (a1 ∈ l) := by rw [decide_eq_decide, set_mem]
  rw [e2, beq_self_eq_true, if_pos rfl, List.nil_append, same_f _ _ _ (by omega) (by omega), Option.bind_some, decide_eq_true rfl]
end Go.Proofs.Ytgjncbnjgmfjeaa.Pure
