/- The places of heats are told, the greatest first, each once. Conditions: none beyond the statement's own. -/
import Derived.Test.YtiikmomjggcdfaaPAx10
import Derived.Test.YtiikmomjggcdfaaFlt
import Derived.Test.YtiikmomjggcdfaaHeatAwake
import Derived.Test.YtiikmomjggcdfaaRankPlain
import Derived.Test.YtiikmomjggcdfaaRankRef
namespace Go.Proofs.Ytiikmomjggcdfaa.Pure
open Go.RowKit Go.Proofs.Ytiikmomjggcdfaa.PA Go.Proofs.Ytiikmomjggcdfaa.Flt Go.Proofs.Ytiikmomjggcdfaa.RankPlain Go.Proofs.Ytiikmomjggcdfaa.RankRef Go.Proofs.YtiikmomjggcdfaaW.PrintWords Go.Proofs.YtiikmomjggcdfaaW.PrintLast
set_option linter.unusedVariables false
theorem ranks_from (l : List Nat) (hl : ∀ x ∈ l, x < 18446744073709551616) (hn : l.length ≤ 20) : ∀ (d i k : Nat), i + d = l.length → d + 1 < k → dowserlaw03_HeatRanks.l0 k l (rankL l) (rankL l) ((rankL l).length : Int) (i : Int) = some true
  | 0, i, k, h, hk => by
    obtain ⟨k, rfl⟩ : ∃ m, k = m + 1 := ⟨k - 1, by omega⟩
    simp only [dowserlaw03_HeatRanks.l0]
    rw [if_neg (by rw [rank_len hl]; omega)]
  | d + 1, i, k, h, hk => by
    obtain ⟨k, rfl⟩ : ∃ m, k = m + 1 := ⟨k - 1, by omega⟩
    have hR := rank_len hl
    have hw : wrap64 ((i : Int) + 1) = ((i + 1 : Nat) : Int) := by rw [RankRef.wrap_small (by omega) (by omega)]; omega
    have ih := ranks_from l hl hn d (i + 1) k (by omega) (by omega)
    simp only [dowserlaw03_HeatRanks.l0]
    rw [if_pos (by omega), if_pos (by omega), if_pos (by omega), if_pos (by omega), if_pos trivial, hw, ih]
    by_cases c : (i : Int) > 0
    · obtain ⟨j, rfl⟩ : ∃ j, i = j + 1 := ⟨i - 1, by omega⟩
      have hw2 : wrap64 (((j + 1 : Nat) : Int) - 1) = (j : Int) := by rw [RankRef.wrap_small (by omega) (by omega)]; omega
      have hin : ∀ q (hq : q < (rankL l).length), 0 ≤ (rankL l)[q] ∧ (rankL l)[q] < (l.length : Int) := fun q hq => (mem_rngL _ _).mp ((rank_spec l hl).1.mem_iff.mp (List.getElem_mem hq))
      have h1 := hin j (by omega)
      have h2 := hin (j + 1) (by omega)
      rw [if_pos c, hw2, if_pos (by omega), if_pos (by omega), rd_get _ j (by omega), rd_get _ (j + 1) (by omega), if_pos h1.1, if_pos h1.2, if_pos h2.1, if_pos h2.2]
      obtain ⟨q, rfl⟩ : ∃ m, k = m + 1 := ⟨k - 1, by omega⟩
      rw [rcompare_f q _ _ (rd_lt hl _) (rd_lt hl _), Option.bind_some]
      have hp := (List.pairwise_iff_getElem.mp (rank_spec l hl).2) j (j + 1) (by omega) (by omega) (by omega)
      unfold before at hp
      rw [if_neg]
      unfold cmp
      rw [if_neg (by omega)]
      split <;> omega
    · rw [if_neg c]
theorem HeatRanks : dowserlaw03_HeatRanks.Pure := by
  intro l0 _ _ hw
  have hl := fl_lt hw
  have hn := fl_len l0
  obtain ⟨K, hK⟩ := rank_ref (fl l0) hl hn
  refine ⟨K + 50, ?_⟩
  unfold dowserlaw03_HeatRanks.f
  rw [HeatAwake.awake_f, Option.bind_some, if_pos rfl, floats_f l0 _ (by omega), Option.bind_some]
  have hr : heat_Rank.f (fl l0) = some (rankL (fl l0)) := by unfold heat_Rank.f; rw [if_pos hn]
  rw [hr, Option.bind_some, hK _ (by omega), Option.bind_some, if_pos rfl]
  have := ranks_from (fl l0) hl hn (fl l0).length 0 (K + 50) (by omega) (by omega)
  rw [Int.ofNat_zero] at this
  exact this
end Go.Proofs.Ytiikmomjggcdfaa.Pure
