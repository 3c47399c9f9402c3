/- Of any bytes there is the set, and the list of pairs, whose bytes they are, or what is wrong: the pure statement of SetcodeReads, for every text. -/
import Derived.Test.YtefiadhmcdfdoaaPCx11
import Derived.Test.YtefiadhmcdfdoaaSetAwake
import Derived.Test.YtefiadhmcdfdoaaPairRef
import Derived.Test.YtefiadhmcdfdoaaSetRead
import Derived.Test.YtefiadhmcdfdoaaCut01
namespace Go.Proofs.Ytefiadhmcdfdoaa.Pure
open Go.RowKit Go.Proofs.Ytefiadhmcdfdoaa.PC Go.Proofs.YtefiadhmcdfdoaaW.PrintWords Go.Proofs.YtefiadhmcdfdoaaW.PrintLast Go.Proofs.Ytefiadhmcdfdoaa.VarPlain Go.Proofs.Ytefiadhmcdfdoaa.SetPlain
theorem fromP_len (l : List UInt8) : (fromP l).1.length ≤ l.length := by
  by_cases h : (fromP l).2 = 0
  · exact (fromP_back l h).2.2
  · have : (fromP l).1 = [] := by
      unfold fromP finA at h ⊢
      repeat' split
      all_goals first | rfl | (simp_all; done)
    rw [this]; simp
theorem fromS_small (l : List UInt8) : (fromS l).1.length ≤ l.length := by
  by_cases h : (fromS l).2 = 0
  · exact fromS_len l h
  · have : (fromS l).1 = [] := by
      unfold fromS finS at h ⊢
      repeat' split
      all_goals first | rfl | (simp_all; done)
    rw [this]; simp
theorem reads_j0 (l : List UInt8) (hl : l.length ≤ 80) : dowserlaw13_SetcodeReads.j0 20000 (mkS l) = some true := by
  rw [show (20000 : Nat) = 19999 + 1 from rfl, dowserlaw13_SetcodeReads.j0]
  have hp := fromP_len l
  rw [fromP_is 19999 l (by omega) (by omega)]
  simp only [Option.bind_some]
  rw [refP_is 19999 l (by omega) (by omega)]
  simp only [Option.bind_some, if_true]
  rw [same2_is 19999 _ (by omega) (by omega)]
  simp only [Option.bind_some, if_true]
  by_cases h : (fromP l).2 = 0
  · have hb := fromP_back l h
    rw [if_pos h, pairs_is 19999 _ (by omega) (by omega), hb.1]
    simp only [Option.bind_some, if_true]
    rw [← hb.2.1, if_pos rfl]; rfl
  · rw [if_neg h]
theorem SetcodeReads : dowserlaw13_SetcodeReads.Pure := by
  intro a0 _
  refine ⟨20000, ?_⟩
  unfold dowserlaw13_SetcodeReads.f
  rw [awake13_is 20000 (by omega)]
  simp only [Option.bind_some, if_true]
  rw [show (80 : Int) = ((80 : Nat) : Int) from rfl, cut_is]
  simp only [Option.bind_some]
  have hl : ((lst a0).take 80).length ≤ 80 := by rw [List.length_take]; omega
  generalize (lst a0).take 80 = l at hl ⊢
  have hs := fromS_small l
  rw [decS_is 20000 l (by omega) (by omega)]
  simp only [Option.bind_some]
  rw [refS_is 20000 l (by omega) (by omega)]
  simp only [Option.bind_some, if_true]
  rw [same_is 20000 _ _ (by omega) (by omega)]
  simp only [Option.bind_some, decide_true, if_true]
  by_cases h : (fromS l).2 = 0
  · have hb := fromS_back l h
    rw [if_pos h, enc_is 20000 _ (by omega) (by omega), if_pos hb.1]
    simp only [Option.bind_some]
    rw [← hb.2, if_pos rfl, if_pos trivial]
    exact reads_j0 l hl
  · rw [if_neg h]
    exact reads_j0 l hl
end Go.Proofs.Ytefiadhmcdfdoaa.Pure
