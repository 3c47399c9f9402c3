/- NodeChecks: of a node of at most thirty entries of short texts, the program's Check answers OK just where the document's does, and ErrArg elsewhere. No conditions. -/
import Derived.Test.YtlboglbgdjakmaaPAx18
import Derived.Test.YtlboglbgdjakmaaNodeAwake
import Derived.Test.YtlboglbgdjakmaaNodeFew
import Derived.Test.YtlboglbgdjakmaaNodeCheck
namespace Go.Proofs.Ytlboglbgdjakmaa.Pure
open Go.RowKit Go.Proofs.Ytlboglbgdjakmaa.PA Go.Proofs.YtlboglbgdjakmaaW.PrintWords Go.Proofs.YtlboglbgdjakmaaW.PrintLast Go.Proofs.Ytlboglbgdjakmaa.VarPlain Go.Proofs.Ytlboglbgdjakmaa.Tools
theorem NodeChecks : dowserlaw09_NodeChecks.Pure := by
  intro a K V P _ _ _ _
  refine ⟨7000, ?_⟩
  unfold dowserlaw09_NodeChecks.f
  rw [awake09_is 7000 (by omega), Option.bind_some, if_pos rfl, few_is 7000 a K V P (by omega), Option.bind_some]
  have h1 : ((K.take 30).map (cutT 18)).length ≤ 30 := by rw [List.length_map, List.length_take]; omega
  have h2 : ((V.take 30).map (cutT 34)).length ≤ 30 := by rw [List.length_map, List.length_take]; omega
  have h3 : (P.take 30).length ≤ 30 := by rw [List.length_take]; omega
  generalize (K.take 30).map (cutT 18) = K' at h1
  generalize (V.take 30).map (cutT 34) = V' at h2
  generalize P.take 30 = P' at h3
  simp only
  rw [own09_is a K' V' P' (by omega) (by omega) (by omega), Option.bind_some]
  simp only
  rw [check_is 7000 a K' V' P' (by omega) (by omega), Option.bind_some, refcheck_is 7000 a K' V' P' (by omega) (by omega) (by omega) (by omega), Option.bind_some]
  by_cases h : PA.Good a K' V' P'
  · rw [if_pos h, pb_true h, if_pos (by decide), Option.bind_some]
    simp only
    rw [check_is 7000 a K' V' P' (by omega) (by omega), Option.bind_some, if_pos h]; rfl
  · rw [if_neg h, pb_false h, if_pos (by decide), Option.bind_some]
    simp only
    rw [check_is 7000 a K' V' P' (by omega) (by omega), Option.bind_some, if_neg h]; rfl
end Go.Proofs.Ytlboglbgdjakmaa.Pure
