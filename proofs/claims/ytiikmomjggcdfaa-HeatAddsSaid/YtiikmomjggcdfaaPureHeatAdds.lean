/- Two heats are added in both ways alike; no number, and both ends together, make none. Conditions: none beyond the statement's own. -/
import Derived.Test.YtiikmomjggcdfaaPAx12
import Derived.Test.YtiikmomjggcdfaaFlt
import Derived.Test.YtiikmomjggcdfaaFltAdd
import Derived.Test.YtiikmomjggcdfaaHeatAwake
namespace Go.Proofs.Ytiikmomjggcdfaa.Pure
open Go.RowKit Go.Proofs.Ytiikmomjggcdfaa.PA Go.Proofs.Ytiikmomjggcdfaa.Flt Go.Proofs.Ytiikmomjggcdfaa.FltAdd Go.Proofs.YtiikmomjggcdfaaW.PrintWords Go.Proofs.YtiikmomjggcdfaaW.PrintLast
set_option linter.unusedVariables false
theorem HeatAdds : dowserlaw03_HeatAdds.Pure := by
  intro a0 a1 h0 h1
  obtain ⟨l0, _⟩ := nat64 h0
  obtain ⟨l1, _⟩ := nat64 h1
  unfold dowserlaw03_HeatAdds.f
  generalize a0.toNat = x at l0 ⊢
  generalize a1.toNat = y at l1 ⊢
  have hm0 : math_Copysign.f 0 13830554455654793216 = some 9223372036854775808 := by decide
  have hnn : math_NaN.f = some 9221120237041090561 := by
    unfold math_NaN.f
    exact congrArg some (show (9221120237041090561 : Int).toNat = 9221120237041090561 by omega)
  have hmi : math_Inf.f (-1) = some 18442240474082181120 := by
    unfold math_Inf.f
    rw [if_neg (by omega)]
    exact congrArg some (show (18442240474082181120 : Int).toNat = 18442240474082181120 by omega)
  have hnb : canon 9221120237041090561 = 9221120237041090561 := by unfold canon; rw [if_pos nan_canon]
  have hnt : dowserref03_Not.f 9221120237041090561 = some true := by rw [not_f _ (by omega), decide_eq_true nan_canon]
  rw [HeatAwake.awake_f, Option.bind_some, if_pos rfl, add_f, Option.bind_some, add_f, Option.bind_some, addN_comm y x, bits_f, Option.bind_some, Option.bind_some, if_pos rfl, rbits_f _ (addN_lt x y), Option.bind_some, if_pos rfl]
  rw [hm0, Option.bind_some, add_f, Option.bind_some, addN_nought l0, bits_f, Option.bind_some, rbits_f _ l0, Option.bind_some, canon_canon, if_pos rfl]
  have hx : addN x 9221120237041090561 = 9221120237041090561 := by rw [addN_comm, addN_nan (by omega) nan_canon]
  rw [hnn, Option.bind_some, add_f, Option.bind_some, hx, hnb, hnt, Option.bind_some, if_pos rfl]
  obtain ⟨b, hb⟩ := isInf_some x
  rw [hb, Option.bind_some]
  cases b with
  | false => rfl
  | true =>
    have hxi := isInf_true l0 hb
    subst hxi
    rw [if_pos rfl, hmi, Option.bind_some, add_f, Option.bind_some, ends, hnb, hnt]
    rfl
end Go.Proofs.Ytiikmomjggcdfaa.Pure
