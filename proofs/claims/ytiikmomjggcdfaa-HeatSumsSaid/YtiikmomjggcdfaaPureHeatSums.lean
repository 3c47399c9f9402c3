/- Heats are summed one by one, from the first one on. Conditions: none beyond the statement's own. -/
import Derived.Test.YtiikmomjggcdfaaPAx13
import Derived.Test.YtiikmomjggcdfaaPAx14
import Derived.Test.YtiikmomjggcdfaaFlt
import Derived.Test.YtiikmomjggcdfaaFltAdd
import Derived.Test.YtiikmomjggcdfaaHeatAwake
import Derived.Test.YtiikmomjggcdfaaRankRef
namespace Go.Proofs.Ytiikmomjggcdfaa.Pure
open Go.RowKit Go.Proofs.Ytiikmomjggcdfaa.PA Go.Proofs.Ytiikmomjggcdfaa.Flt Go.Proofs.Ytiikmomjggcdfaa.FltAdd Go.Proofs.Ytiikmomjggcdfaa.RankPlain Go.Proofs.Ytiikmomjggcdfaa.RankRef Go.Proofs.YtiikmomjggcdfaaW.PrintWords Go.Proofs.YtiikmomjggcdfaaW.PrintLast
set_option linter.unusedVariables false
theorem sumTo_lt {l : List Nat} (hl : ∀ x ∈ l, x < 18446744073709551616) : ∀ i, sumTo l i < 18446744073709551616
  | 0 => by unfold sumTo; omega
  | 1 => by unfold sumTo; exact rd_lt hl 0
  | i + 2 => by unfold sumTo; exact addN_lt _ _
theorem sum_from (l : List Nat) (hl : ∀ x ∈ l, x < 18446744073709551616) (hn : l.length ≤ 20) : ∀ (d i k : Nat), i + d = l.length → d < k → heat_Sum.l0 k (canon (sumTo l i)) l (l.length : Int) (i : Int) = some (canon (sumTo l l.length))
  | 0, i, k, h, hk => by
    obtain ⟨k, rfl⟩ : ∃ m, k = m + 1 := ⟨k - 1, by omega⟩
    simp only [heat_Sum.l0]
    rw [if_neg (by omega)]
    rw [show i = l.length by omega]
  | d + 1, i, k, h, hk => by
    obtain ⟨k, rfl⟩ : ∃ m, k = m + 1 := ⟨k - 1, by omega⟩
    have hw : wrap64 ((i : Int) + 1) = ((i + 1 : Nat) : Int) := by rw [RankRef.wrap_small (by omega) (by omega)]; omega
    have ih := sum_from l hl hn d (i + 1) k (by omega) (by omega)
    simp only [heat_Sum.l0]
    rw [if_pos (by omega), if_pos (by omega), if_pos (by omega), hw]
    by_cases c : (i : Int) = 0
    · have hi : i = 0 := by omega
      subst hi
      rw [if_pos c, canon_f, Option.bind_some]
      exact ih
    · rw [if_neg c, add_f, Option.bind_some, canon_addN _ _ (sumTo_lt hl i), ← sumTo_next l i (by omega)]
      exact ih
theorem HeatSums : dowserlaw03_HeatSums.Pure := by
  intro l0 _ _ hw
  have hl := fl_lt hw
  have hn := fl_len l0
  refine ⟨50, ?_⟩
  unfold dowserlaw03_HeatSums.f
  rw [HeatAwake.awake_f, Option.bind_some, if_pos rfl, floats_f l0 _ (by omega), Option.bind_some]
  have h0 : heat_Sum.f 50 (fl l0) = some (canon (sumTo (fl l0) (fl l0).length)) := by
    have := sum_from (fl l0) hl hn (fl l0).length 0 50 (by omega) (by omega)
    rw [Int.ofNat_zero] at this
    exact this
  rw [h0, Option.bind_some, rbits_f _ (sumTo_lt hl _), Option.bind_some, if_pos rfl]
end Go.Proofs.Ytiikmomjggcdfaa.Pure
