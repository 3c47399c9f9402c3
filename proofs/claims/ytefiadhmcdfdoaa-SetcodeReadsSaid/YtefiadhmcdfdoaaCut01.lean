-- Cut of the first law package
import Derived.Test.YtefiadhmcdfdoaaPCx4
import Derived.Test.YtefiadhmcdfdoaaVarPlain
namespace Go.Proofs.Ytefiadhmcdfdoaa.PC
open Go.RowKit Go.Proofs.YtefiadhmcdfdoaaW.PrintWords Go.Proofs.YtefiadhmcdfdoaaW.PrintLast Go.Proofs.YtefiadhmcdfdoaaW.PrintMore Go.Proofs.Ytefiadhmcdfdoaa.VarPlain
theorem cut_is (s : ByteArray) (n : Nat) : dowserlaw01_Cut.f s (n : Int) = some (mkS ((lst s).take n)) := by
  unfold dowserlaw01_Cut.f
  by_cases h : (s.size : Int) > n
  · have h2 : (n : Int) ≤ (s.size : Int) := by omega
    rw [if_pos h, if_pos (Int.natCast_nonneg _), if_pos h2, Int.toNat_natCast, extract_to]
  · rw [if_neg h, List.take_of_length_le (by rw [← size_lst]; omega)]; rfl
theorem cut_len (s : ByteArray) (n : Nat) : (mkS ((lst s).take n)).size ≤ n := by rw [size_mk, List.length_take]; omega
end Go.Proofs.Ytefiadhmcdfdoaa.PC
