/- What the document's own text of layer 1 comes to: numbers and texts as bytes. -/
import Derived.Test.YtefiadhmcdfdoaaPCx11
import Derived.Test.YtefiadhmcdfdoaaVarRun
namespace Go.Proofs.Ytefiadhmcdfdoaa.PC
open Go.RowKit Go.Proofs.YtefiadhmcdfdoaaW.PrintWords Go.Proofs.YtefiadhmcdfdoaaW.PrintLast Go.Proofs.YtefiadhmcdfdoaaW.PrintMore Go.Proofs.Ytefiadhmcdfdoaa.VarPlain
theorem byte_mk (x : Nat) : strOfNums [(x : Int) % 256] = mkS [UInt8.ofNat x] := by
  have : (x : Int) % 256 = ((UInt8.ofNat x).toNat : Int) := by rw [UInt8.toNat_ofNat']; omega
  rw [this]
  exact nums_mk [UInt8.ofNat x]
theorem wrap_more (b : Nat) (h : b < 128) : IntKind.u64.wrap (128 + (b : Int)) = ((b + 128 : Nat) : Int) := by
  have h5 : 0 ≤ 128 + (b : Int) := by omega
  have h6 : 128 + (b : Int) < 18446744073709551616 := by omega
  rw [u64_in h5 h6]; omega
theorem wrap_nat {x : Nat} (h : x < 18446744073709551616) : IntKind.u64.wrap (x : Int) = (x : Int) := u64_in (Int.natCast_nonneg _) (by omega)
theorem refnum_loop (d : Nat) : ∀ (k x i : Nat) (acc : List UInt8), i + d = 10 → x < 128 ^ d → 0 < d → d < k → acc.length ≤ 100 * i →
    dowserref01_Num.l0 k (x : Int) (mkS acc) (i : Int) = some (mkS (acc ++ enc x)) := by
  induction d with
  | zero => intro k x i acc _ _ h; omega
  | succ d ih =>
    intro k x i acc hi hx _ hk ha
    obtain ⟨k, rfl⟩ : ∃ m, k = m + 1 := ⟨k - 1, by omega⟩
    have hi10 : (i : Int) < 10 := by omega
    have hi' : i + 1 + d = 10 := by omega
    have hk' : d < k := by omega
    have hd9 : d ≤ 9 := by omega
    simp only [dowserref01_Num.l0]
    rw [if_pos hi10]
    by_cases h : x < 128
    · have h1 : (x : Int) < 128 := by omega
      rw [if_pos h1]
      simp only [Option.bind_some]
      rw [byte_mk x, enc_small h]
      have h2 : (mkS acc).size + (mkS [UInt8.ofNat x]).size ≤ 9223372036854775807 := by rw [size_mk, size_mk, List.length_singleton]; omega
      rw [if_pos h2, append_mk]
    · have h1 : ¬ (x : Int) < 128 := by omega
      have e1 : Int.tmod (x : Int) 128 = ((x % 128 : Nat) : Int) := rfl
      have e2 : Int.tdiv (x : Int) 128 = ((x / 128 : Nat) : Int) := rfl
      have hA : (acc ++ [UInt8.ofNat (x % 128 + 128)]).length ≤ 100 * (i + 1) := by rw [List.length_append, List.length_singleton]; omega
      have h2 : (mkS acc).size + (mkS [UInt8.ofNat (x % 128 + 128)]).size ≤ 9223372036854775807 := by rw [size_mk, size_mk, List.length_singleton]; omega
      have hw : wrap64 ((i : Int) + 1) = ((i + 1 : Nat) : Int) := by unfold wrap64; omega
      have e3 : IntKind.u64.wrap (128 + ((x % 128 : Nat) : Int)) = ((x % 128 + 128 : Nat) : Int) := wrap_more _ (Nat.mod_lt _ (by omega))
      have hx' : x / 128 < 128 ^ d := by
        rw [Nat.pow_succ] at hx
        exact Nat.div_lt_of_lt_mul (by rw [Nat.mul_comm]; exact hx)
      have hd0 : 0 < d := by
        rcases Nat.eq_zero_or_pos d with h0 | h0
        · subst h0
          rw [Nat.pow_zero] at hx'
          exact absurd hx' (by omega)
        · exact h0
      have h7 : x / 128 < 18446744073709551616 := Nat.lt_of_lt_of_le hx' (Nat.le_trans (Nat.pow_le_pow_right (by omega) hd9) (by decide))
      rw [if_neg h1, e1, e2, e3]
      simp only [Option.bind_some]
      rw [byte_mk (x % 128 + 128), if_pos h2, append_mk, wrap_nat h7, hw, ih k (x / 128) (i + 1) _ hi' hx' hd0 hk' hA, enc_great (x := x) (Nat.le_of_not_lt h), List.append_assoc]
      rfl
theorem refnum_is (k x : Nat) (hx : x < 18446744073709551616) (hk : 10 < k) : dowserref01_Num.f k (x : Int) = some (mkS (enc x)) := by
  unfold dowserref01_Num.f
  have h : x < 128 ^ 10 := Nat.lt_of_lt_of_le hx (by decide)
  have := refnum_loop 10 k x 0 [] rfl h (by omega) hk (by simp)
  rw [List.nil_append] at this
  exact this
end Go.Proofs.Ytefiadhmcdfdoaa.PC
