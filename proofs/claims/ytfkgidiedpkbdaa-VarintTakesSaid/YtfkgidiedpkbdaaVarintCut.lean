/- Two small functions of the statements: at most n bytes; a fixed fact. -/
import Derived.Test.YtfkgidiedpkbdaaPTx1
import Derived.Test.YtfkgidiedpkbdaaPTx2
import Derived.Test.YtfkgidiedpkbdaaVarTxt
namespace Go.Proofs.Ytfkgidiedpkbdaa.PT
open Go.RowKit Go.Proofs.YtfkgidiedpkbdaaW.PrintWords Go.Proofs.YtfkgidiedpkbdaaW.PrintLast Go.Proofs.YtfkgidiedpkbdaaW.PrintMore Go.Proofs.Ytfkgidiedpkbdaa.VarPlain
theorem cut_is (s : ByteArray) (n : Nat) : dowserlaw01_Cut.f s (n : Int) = some (mkS ((lst s).take n)) := by
  unfold dowserlaw01_Cut.f
  by_cases h : (s.size : Int) > n
  · have h2 : (n : Int) ≤ (s.size : Int) := by omega
    rw [if_pos h, if_pos (Int.natCast_nonneg _), if_pos h2, Int.toNat_natCast, extract_to]
  · rw [if_neg h, List.take_of_length_le (by rw [← size_lst]; omega)]; rfl
theorem cut_len (s : ByteArray) (n : Nat) : (mkS ((lst s).take n)).size ≤ n := by rw [size_mk, List.length_take]; omega
theorem awake01_is (k : Nat) (hk : 10 < k) : dowserlaw01_awake.f k = some true := by
  unfold dowserlaw01_awake.f
  have h1 := num_is k 300 (by omega) hk
  have h2 := text_is k (⟨#[97, 98]⟩ : ByteArray) (by decide) hk
  have e1 : (mkS (enc 300)).toList = [172, 2] := by rw [toList_lst, lst_mk, enc_great (by omega), enc_small (by omega)]; decide
  have e2 : (mkS (encT (lst (⟨#[97, 98]⟩ : ByteArray)))).toList = [2, 97, 98] := by
    have : encT (lst (⟨#[97, 98]⟩ : ByteArray)) = enc 2 ++ [97, 98] := rfl
    rw [toList_lst, lst_mk, this, enc_small (by omega)]; decide
  rw [show ((300 : Nat) : Int) = 300 from rfl] at h1
  rw [h1]
  simp only [Option.bind_some]
  rw [if_pos e1, h2]
  simp only [Option.bind_some]
  rw [e2]
  rfl
end Go.Proofs.Ytfkgidiedpkbdaa.PT
