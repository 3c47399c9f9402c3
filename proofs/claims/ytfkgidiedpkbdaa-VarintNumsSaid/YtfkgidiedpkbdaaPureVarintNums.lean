/- Two numbers, one behind the other, come back; their bytes are the document's; and no number's bytes begin with another one's: the pure statement of VarintNums, for every two numbers. -/
import Derived.Test.YtfkgidiedpkbdaaPAx6
import Derived.Test.YtfkgidiedpkbdaaVarRun
import Derived.Test.YtfkgidiedpkbdaaVarintRef
import Derived.Test.YtfkgidiedpkbdaaVarintCut
namespace Go.Proofs.Ytfkgidiedpkbdaa.Pure
open Go.RowKit Go.Proofs.Ytfkgidiedpkbdaa.PA Go.Proofs.YtfkgidiedpkbdaaW.PrintWords Go.Proofs.YtfkgidiedpkbdaaW.PrintLast Go.Proofs.Ytfkgidiedpkbdaa.VarPlain
theorem u64_nat {a : Int} (h : (Lit.int .u64 a).wf = true) : ∃ x : Nat, a = (x : Int) ∧ x < 18446744073709551616 := by
  have h1 := of_decide_eq_true ((Bool.and_eq_true _ _).mp h).1
  have h2 := of_decide_eq_true ((Bool.and_eq_true _ _).mp h).2
  have h3 : (0 : Int) ≤ a := h1
  have h4 : a ≤ 18446744073709551615 := h2
  exact ⟨a.toNat, by omega, by omega⟩
theorem begins {x y : Nat} (hx : x < 18446744073709551616) (hy : y < 18446744073709551616) (h : (enc y).take (enc x).length = enc x) : x = y := by
  have h1 : enc x ++ (enc y).drop (enc x).length = enc y ++ [] := by
    conv => lhs; lhs; rw [← h]
    rw [List.take_append_drop, List.append_nil]
  exact (enc_begins hx hy h1).1
theorem VarintNums : dowserlaw01_VarintNums.Pure := by
  intro a0 a1 hw0 hw1
  obtain ⟨x, rfl, hx⟩ := u64_nat hw0
  obtain ⟨y, rfl, hy⟩ := u64_nat hw1
  clear hw0 hw1
  refine ⟨5000, ?_⟩
  have lx := enc_len_u64 hx
  have ly := enc_len_u64 hy
  have nx := num_is 5000 x hx (by omega)
  have ny := num_is 5000 y hy (by omega)
  have rx := refnum_is 5000 x hx (by omega)
  have hsz : (mkS (enc x)).size + (mkS (enc y)).size ≤ 9223372036854775807 := by rw [size_mk, size_mk]; omega
  have i1 := innum_is 5000 (mkS (enc x ++ enc y)) 0 18446744073709551615 (by rw [size_mk, List.length_append]; omega) (by rw [size_mk, List.length_append]; omega)
  rw [lst_mk, rNum_enc x (enc y) _ hx (by omega)] at i1
  have hn := rNum_enc y [] 18446744073709551615 hy (by omega)
  rw [List.append_nil] at hn
  have i2 := innum_is 5000 (mkS (enc y)) 0 18446744073709551615 (by rw [size_mk]; omega) (by rw [size_mk]; omega)
  rw [lst_mk, hn] at i2
  have h10 : ((mkS (enc x)).size : Int) ≤ 10 := by rw [size_mk]; omega
  have h0 : 0 ≤ ((mkS (enc x)).size : Int) := Int.natCast_nonneg _
  have eN : ((18446744073709551615 : Nat) : Int) = 18446744073709551615 := rfl
  rw [eN] at i1 i2
  unfold dowserlaw01_VarintNums.f
  rw [awake01_is 5000 (by omega)]
  simp only [Option.bind_some, if_true]
  rw [nx]; simp only [Option.bind_some]
  rw [ny]; simp only [Option.bind_some]
  rw [if_pos hsz]
  simp only [varint_Of.f, Option.bind_some]
  rw [append_mk, i1]; simp only [Option.bind_some]
  rw [i2]; simp only [Option.bind_some]
  have hend : (mkS [] : ByteArray).size = 0 := rfl
  by_cases hle : ((mkS (enc x)).size : Int) ≤ ((mkS (enc y)).size : Int)
  · rw [if_pos hle, if_pos h0, rx]; simp only [Option.bind_some, if_true]
    rw [if_pos h10, end_is]; simp only [Option.bind_some]
    rw [if_pos (by rw [lst_mk]; rfl)]
    refine congrArg some ?_
    rw [Int.toNat_natCast, extract_to, toList_lst, toList_lst, lst_mk, lst_mk, lst_mk, size_mk, beq_iff_eq, Bool.eq_iff_iff, beq_iff_eq, beq_iff_eq]
    constructor
    · intro h; rw [begins hx hy h]
    · intro h
      have : x = y := by omega
      subst this
      exact List.take_length
  · rw [if_neg hle, rx]; simp only [Option.bind_some, if_true]
    rw [if_pos h10, end_is]; simp only [Option.bind_some]
    rw [if_pos (by rw [lst_mk]; rfl)]
    refine congrArg some ?_
    have hne : ((x : Int) == (y : Int)) = false := by
      rw [beq_eq_false_iff_ne]
      intro h
      have : x = y := by omega
      subst this
      exact hle (Int.le_refl _)
    rw [hne]; rfl
end Go.Proofs.Ytfkgidiedpkbdaa.Pure
