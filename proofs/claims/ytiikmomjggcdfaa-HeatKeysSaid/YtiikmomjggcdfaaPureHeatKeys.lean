/- Bits and keys of any heat are the document's, there and back; of any number there is the heat whose key it is, or none. Conditions: none beyond the statement's own. -/
import Derived.Test.YtiikmomjggcdfaaPAx14
import Derived.Test.YtiikmomjggcdfaaFlt
import Derived.Test.YtiikmomjggcdfaaHeatAwake
namespace Go.Proofs.Ytiikmomjggcdfaa.Pure
open Go.RowKit Go.Proofs.Ytiikmomjggcdfaa.PA Go.Proofs.Ytiikmomjggcdfaa.Flt Go.Proofs.YtiikmomjggcdfaaW.PrintWords Go.Proofs.YtiikmomjggcdfaaW.PrintLast
set_option linter.unusedVariables false
theorem HeatKeys : dowserlaw03_HeatKeys.Pure := by
  intro a0 a1 h0 h1
  refine ⟨1, ?_⟩
  obtain ⟨l0, _⟩ := nat64 h0
  have w1 := wf64 h1
  unfold dowserlaw03_HeatKeys.f
  rw [HeatAwake.awake_f]
  simp only [Option.bind_some, if_true]
  have kr := key_range a0.toNat l0
  rw [bits_f, rbits_f _ l0, canon_f, of_f, key_f _ l0, rkey_f _ l0]
  simp only [Option.bind_some, if_true]
  rw [from_f 0 _ kr.1 (by omega), unkey_key _ l0]
  simp only [Option.bind_some]
  rw [bits_f]
  simp only [Option.bind_some]
  have hcc : canon (canon a0.toNat) = canon a0.toNat := by
    unfold canon
    by_cases c : nan a0.toNat
    · rw [if_pos c, if_pos nan_canon]
    · rw [if_neg c, if_neg c]
  rw [hcc, if_pos rfl, from_f 0 a1 w1.1 w1.2]
  simp only [Option.bind_some]
  rw [key_f _ (unkey_lt _)]
  simp only [Option.bind_some]
  by_cases c : a1 ≤ 18437736874454810626
  · rw [if_pos (key_unkey a1 w1.1 c)]
  · have e : unkey a1 = 9221120237041090561 := by unfold unkey; rw [if_neg (by omega), if_neg (by omega)]
    rw [e, key_nan nan_canon, if_neg (by omega), not_f _ (by omega)]
    simp only [Option.bind_some]
    rw [if_pos (decide_eq_true nan_canon)]
    have ei : math_Inf.f 1 = some 9218868437227405312 := by
      unfold math_Inf.f
      rw [if_pos (by omega)]
      exact congrArg some (show (9218868437227405312 : Int).toNat = 9218868437227405312 by omega)
    rw [ei]
    simp only [Option.bind_some]
    rw [rkey_f _ (by omega)]
    simp only [Option.bind_some]
    have ek : key 9218868437227405312 = 18437736874454810626 := by unfold key; rw [if_neg (by unfold nan; omega), if_neg (by omega)]; rfl
    rw [ek]
    exact congrArg some (decide_eq_true (by omega))
end Go.Proofs.Ytiikmomjggcdfaa.Pure
