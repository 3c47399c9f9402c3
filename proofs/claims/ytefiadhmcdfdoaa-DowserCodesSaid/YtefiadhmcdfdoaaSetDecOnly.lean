/- What Decode comes to at a set's own bytes. -/
import Derived.Test.YtefiadhmcdfdoaaPDx3
import Derived.Test.YtefiadhmcdfdoaaSetEnc
namespace Go.Proofs.Ytefiadhmcdfdoaa.PD
open Go.RowKit Go.Proofs.YtefiadhmcdfdoaaW.PrintWords Go.Proofs.YtefiadhmcdfdoaaW.PrintLast Go.Proofs.YtefiadhmcdfdoaaW.PrintMore Go.Proofs.Ytefiadhmcdfdoaa.VarPlain Go.Proofs.Ytefiadhmcdfdoaa.SetPlain
theorem dec_loop : ∀ (m : List Int) (last : Int) (acc : List Int) (k : Nat), Rise last m → -1 ≤ last → acc.length + m.length ≤ 1000 → 40 * m.length + 10 < k →
    setcode_Decode.l0 k acc last (m.length : Int) (mkS (encGo last m)) 0 = some (acc ++ m, 0) := by
  intro m
  induction m with
  | nil =>
    intro last acc k _ _ _ hk
    obtain ⟨k, rfl⟩ : ∃ m, k = m + 1 := ⟨k - 1, by omega⟩
    simp only [setcode_Decode.l0]
    rw [if_neg (by simp), end_is]
    rw [List.append_nil]
    rfl
  | cons x m ih =>
    intro last acc k hr h1 ha hk
    obtain ⟨k, rfl⟩ : ∃ m, k = m + 2 := ⟨k - 2, by omega⟩
    have hlen := encGo_len (x :: m) last hr h1
    unfold Rise at hr
    obtain ⟨h2, h3, h4⟩ := hr
    rw [List.length_cons] at ha hk hlen
    have hb : (x - last - 1).toNat < 18446744073709551616 := by omega
    have hin := innum_is (k + 1) (mkS (encGo last (x :: m))) 0 2147483647 (by rw [size_mk]; omega) (by rw [size_mk]; omega)
    have hE : encGo last (x :: m) = enc (x - last - 1).toNat ++ encGo x m := rfl
    rw [lst_mk, hE, rNum_enc _ _ _ hb (by omega), show ((2147483647 : Nat) : Int) = 2147483647 from rfl] at hin
    have e1 : wrap64 (last + 1) = last + 1 := w64 (by omega) (by omega)
    have e2 : wrap64 (((x - last - 1).toNat : Nat) : Int) = x - last - 1 := by rw [w64 (by omega) (by omega)]; omega
    have e3 : wrap64 (last + 1 + (x - last - 1)) = x := by rw [w64 (by omega) (by omega)]; omega
    have e4 : IntKind.u64.wrap (((m.length + 1 : Nat) : Int) - 1) = (m.length : Int) := by rw [u64_in (by omega) (by omega)]; omega
    have e5 : decide (x > 2147483647) = false := decide_eq_false (by omega)
    have hpos : ((m.length + 1 : Nat) : Int) > 0 := by omega
    have hacc : acc.length < 17592186044416 := by omega
    have hih := ih x (acc ++ [x]) k h4 (by omega) (by rw [List.length_append, List.length_singleton]; omega) (by omega)
    rw [List.length_cons, hE]
    simp only [setcode_Decode.l0]
    rw [if_pos hpos, hin]
    simp only [Option.bind_some, varint_In_Err.f, if_true]
    rw [e1, e2, e3, e5]
    simp only [setcode_Decode.j1]
    rw [if_neg (by simp)]
    simp only [Option.bind_some, varint_In_Err.f, if_true]
    rw [if_pos hacc, e4, hih, List.append_assoc]
    rfl
theorem dec_is (k : Nat) (m : List Int) (hr : Rise (-1) m) (hm : m.length ≤ 1000) (hk : 40 * m.length + 100 < k) : setcode_Decode.f k (mkS (encAll m)) = some (m, 0) := by
  unfold setcode_Decode.f
  have hlen := encGo_len m (-1) hr (Int.le_refl _)
  have hl2 := enc_len_u64 (x := m.length) (by omega)
  have hsz : (mkS (encAll m)).size ≤ 10 * m.length + 10 := by rw [size_mk]; unfold encAll; rw [List.length_append]; omega
  have hin := innum_is k (mkS (encAll m)) 0 2147483647 (by omega) (by omega)
  have hE : encAll m = enc m.length ++ encGo (-1) m := rfl
  rw [lst_mk, hE, rNum_enc _ _ _ (by omega) (by omega), show ((2147483647 : Nat) : Int) = 2147483647 from rfl] at hin
  rw [hE]
  simp only [varint_Of.f, Option.bind_some]
  rw [hin]
  simp only [Option.bind_some]
  exact dec_loop m (-1) [] k hr (Int.le_refl _) (by simp; omega) (by omega)
end Go.Proofs.Ytefiadhmcdfdoaa.PD
