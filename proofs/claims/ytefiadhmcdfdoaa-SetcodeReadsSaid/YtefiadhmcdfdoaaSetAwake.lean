/- A fixed fact of the statements of layer 13. -/
import Derived.Test.YtefiadhmcdfdoaaPCx4
import Derived.Test.YtefiadhmcdfdoaaSetDec
namespace Go.Proofs.Ytefiadhmcdfdoaa.PC
open Go.RowKit Go.Proofs.YtefiadhmcdfdoaaW.PrintWords Go.Proofs.YtefiadhmcdfdoaaW.PrintLast Go.Proofs.YtefiadhmcdfdoaaW.PrintMore Go.Proofs.Ytefiadhmcdfdoaa.VarPlain Go.Proofs.Ytefiadhmcdfdoaa.SetPlain
theorem awake13_is (k : Nat) (hk : 300 < k) : dowserlaw13_awake.f k = some true := by
  unfold dowserlaw13_awake.f
  have hr : Rise (-1) [5, 6, 9] := by decide
  have e0 : encAll [5, 6, 9] = [3, 5, 0, 2] := by
    show enc 3 ++ (enc (5 - (-1) - 1 : Int).toNat ++ (enc (6 - 5 - 1 : Int).toNat ++ (enc (9 - 6 - 1 : Int).toNat ++ []))) = _
    rw [enc_small (by decide), enc_small (by decide), enc_small (by decide), enc_small (by decide)]
    decide
  have h1 := enc_is k [5, 6, 9] (by decide) (by show 3 + 20 < k; omega)
  rw [if_pos hr, e0] at h1
  have h2 := dec_is k [5, 6, 9] hr (by decide) (by show 40 * 3 + 100 < k; omega)
  rw [e0] at h2
  have h3 := same_is k [5, 6, 9] [5, 6, 9] (by decide) (by show 3 < k; omega)
  rw [h1]
  simp only [Option.bind_some]
  rw [show (⟨#[3, 5, 0, 2]⟩ : ByteArray) = mkS [3, 5, 0, 2] from rfl, h2]
  simp only [Option.bind_some, if_true]
  rw [toList_lst, lst_mk, if_pos rfl, h3]
  rfl
end Go.Proofs.Ytefiadhmcdfdoaa.PC
