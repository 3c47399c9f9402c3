/- The fixed fact at the head of the laws on heats holds. -/
import Derived.Test.YtiikmomjggcdfaaPAx3
import Derived.Test.YtiikmomjggcdfaaPAx4
import Derived.Test.YtiikmomjggcdfaaFlt
import Derived.Test.YtiikmomjggcdfaaRankPlain
namespace Go.Proofs.Ytiikmomjggcdfaa.HeatAwake
open Go.RowKit Go.Proofs.Ytiikmomjggcdfaa.PA Go.Proofs.Ytiikmomjggcdfaa.Flt Go.Proofs.Ytiikmomjggcdfaa.RankPlain Go.Proofs.YtiikmomjggcdfaaW.PrintWords Go.Proofs.YtiikmomjggcdfaaW.PrintLast
instance (l : List Nat) (i j : Int) : Decidable (before l i j) := by unfold before; exact inferInstance
theorem rank4 : rankL [4607182418800017408, 9221120237041090561, 9218868437227405312, 4607182418800017408] = [2, 0, 3, 1] := by
  have hs := rank_spec [4607182418800017408, 9221120237041090561, 9218868437227405312, 4607182418800017408] (by decide)
  refine unique hs.2 (by decide) (hs.1.trans (by decide))
theorem awake_f : dowserlaw03_awake.f = some true := by
  have hn : math_NaN.f = some 9221120237041090561 := by
    unfold math_NaN.f
    exact congrArg some (show (9221120237041090561 : Int).toNat = 9221120237041090561 by omega)
  have hi : math_Inf.f 1 = some 9218868437227405312 := by
    unfold math_Inf.f
    rw [if_pos (by omega)]
    exact congrArg some (show (9218868437227405312 : Int).toNat = 9218868437227405312 by omega)
  have hm : math_Inf.f (-1) = some 18442240474082181120 := by
    unfold math_Inf.f
    rw [if_neg (by omega)]
    exact congrArg some (show (18442240474082181120 : Int).toNat = 18442240474082181120 by omega)
  unfold dowserlaw03_awake.f
  rw [hn, Option.bind_some, hi, Option.bind_some]
  have hr : heat_Rank.f [4607182418800017408, 9221120237041090561, 9218868437227405312, 4607182418800017408] = some [2, 0, 3, 1] := by
    unfold heat_Rank.f
    rw [if_pos (by decide), rank4]
  rw [hr, hm, Option.bind_some]
  have e0 : rd [2, 0, 3, 1] 0 = 2 := rfl
  have e1 : rd [2, 0, 3, 1] 1 = 0 := rfl
  have e2 : rd [2, 0, 3, 1] 2 = 3 := rfl
  have e3 : rd [2, 0, 3, 1] 3 = 1 := rfl
  simp only [e0, e1, e2, e3, List.length_cons, List.length_nil]
  rw [if_pos (by decide), if_pos (by decide), if_pos (by decide), if_pos (by decide), if_pos (by decide), if_pos (by decide), if_pos (by decide), if_pos (by decide), if_pos (by decide)]
  rw [Option.bind_some, key_f _ (by omega), Option.bind_some]
  have : key 18442240474082181120 = 1 := by unfold key; rw [if_neg (by unfold nan; omega), if_pos (by omega)]; rfl
  rw [this]; rfl
end Go.Proofs.Ytiikmomjggcdfaa.HeatAwake
