/- What the document's own text of layer 13 comes to: is a list a set; a set's bytes. -/
import Derived.Test.YtefiadhmcdfdoaaPAx11
import Derived.Test.YtefiadhmcdfdoaaPAx13
import Derived.Test.YtefiadhmcdfdoaaSetEnc
import Derived.Test.YtefiadhmcdfdoaaVarRefNum
namespace Go.Proofs.Ytefiadhmcdfdoaa.PA
open Go.RowKit Go.Proofs.YtefiadhmcdfdoaaW.PrintWords Go.Proofs.YtefiadhmcdfdoaaW.PrintLast Go.Proofs.YtefiadhmcdfdoaaW.PrintMore Go.Proofs.Ytefiadhmcdfdoaa.VarPlain Go.Proofs.Ytefiadhmcdfdoaa.SetPlain
/-- The one before place i. -/
def before (l : List Int) (i : Nat) : Int := if i = 0 then -1 else l.getD (i - 1) 0
theorem before_zero (l : List Int) : before l 0 = -1 := rfl
theorem before_succ (l : List Int) (i : Nat) (h : i < l.length) : before l (i + 1) = l[i] := by
  unfold before
  rw [if_neg (by omega), Nat.add_sub_cancel, List.getD_eq_getElem?_getD, List.getElem?_eq_getElem h]; rfl
theorem refset_loop (l : List Int) (hl : l.length ≤ 1000) (d : Nat) : ∀ (k i : Nat), l.length - i = d → i ≤ l.length → d < k → -1 ≤ before l i →
    dowserref13_Set.l0 k l l (l.length : Int) (i : Int) = some (decide (Rise (before l i) (l.drop i))) := by
  induction d with
  | zero =>
    intro k i hd hi hk _
    obtain ⟨k, rfl⟩ : ∃ m, k = m + 1 := ⟨k - 1, by omega⟩
    have h1 : ¬ (i : Int) < (l.length : Int) := by omega
    simp only [dowserref13_Set.l0]
    rw [if_neg h1, List.drop_eq_nil_of_le (by omega)]; rfl
  | succ d ih =>
    intro k i hd hi hk hb
    obtain ⟨k, rfl⟩ : ∃ m, k = m + 1 := ⟨k - 1, by omega⟩
    have hlt : i < l.length := by omega
    have h1 : (i : Int) < (l.length : Int) := by omega
    have hw2 : wrap64 ((i : Int) + 1) = ((i + 1 : Nat) : Int) := by rw [w64 (by omega) (by omega)]; omega
    have hbs := before_succ l i hlt
    rw [List.drop_eq_getElem_cons hlt]
    simp only [dowserref13_Set.l0]
    rw [if_pos h1, if_pos (Int.natCast_nonneg _), if_pos h1, rd_at l i hlt, hw2]
    by_cases c1 : l[i] < 0
    · rw [if_pos c1, decide_eq_false (by unfold Rise; omega)]
    · rw [if_neg c1]
      by_cases c2 : l[i] > 2147483647
      · rw [if_pos c2, decide_eq_false (by unfold Rise; omega)]
      · have hih := ih k (i + 1) (by omega) (by omega) (by omega) (by rw [hbs]; omega)
        rw [hbs] at hih
        rw [if_neg c2]
        by_cases c3 : (i : Int) > 0
        · have hw : wrap64 ((i : Int) - 1) = ((i - 1 : Nat) : Int) := by rw [w64 (by omega) (by omega)]; omega
          have h3 : ((i - 1 : Nat) : Int) < (l.length : Int) := by omega
          have hbi : before l i = l[i - 1]'(by omega) := by
            have := before_succ l (i - 1) (by omega)
            rw [show i - 1 + 1 = i by omega] at this
            exact this
          rw [if_pos c3, hw, if_pos (Int.natCast_nonneg _), if_pos h3, rd_at l (i - 1) (by omega), hih]
          by_cases c4 : l[i - 1]'(by omega) ≥ l[i]
          · rw [if_pos c4, decide_eq_false (by unfold Rise; omega)]
          · rw [if_neg c4]
            congr 1
            rw [decide_eq_decide, Rise]
            constructor
            · intro h; exact ⟨by omega, by omega, h⟩
            · intro h; exact h.2.2
        · obtain rfl : i = 0 := by omega
          rw [if_neg c3, hih]
          congr 1
          rw [decide_eq_decide, Rise, before_zero]
          constructor
          · intro h; exact ⟨by omega, by omega, h⟩
          · intro h; exact h.2.2
theorem refset_is (k : Nat) (l : List Int) (hl : l.length ≤ 1000) (hk : l.length < k) : dowserref13_Set.f k l = some (decide (Rise (-1) l)) := by
  unfold dowserref13_Set.f
  exact refset_loop l hl l.length k 0 (by omega) (by omega) hk (Int.le_refl _)
theorem refenc_loop (l : List Int) (hl : l.length ≤ 1000) (d : Nat) : ∀ (k i : Nat) (acc : List UInt8), l.length - i = d → i ≤ l.length → d + 11 < k → Rise (before l i) (l.drop i) → -1 ≤ before l i → acc.length ≤ 20 + 10 * i →
    dowserref13_Encode.l0 k l (mkS acc) l (l.length : Int) (i : Int) = some (mkS (acc ++ encGo (before l i) (l.drop i))) := by
  induction d with
  | zero =>
    intro k i acc hd hi hk _ _ _
    obtain ⟨k, rfl⟩ : ∃ m, k = m + 1 := ⟨k - 1, by omega⟩
    have h1 : ¬ (i : Int) < (l.length : Int) := by omega
    simp only [dowserref13_Encode.l0]
    rw [if_neg h1, List.drop_eq_nil_of_le (by omega)]
    show _ = some (mkS (acc ++ []))
    rw [List.append_nil]
  | succ d ih =>
    intro k i acc hd hi hk hr hlast ha
    obtain ⟨k, rfl⟩ : ∃ m, k = m + 1 := ⟨k - 1, by omega⟩
    have hlt : i < l.length := by omega
    have hI : (i : Int) < (l.length : Int) := by omega
    have hw2 : wrap64 ((i : Int) + 1) = ((i + 1 : Nat) : Int) := by rw [w64 (by omega) (by omega)]; omega
    have hbs := before_succ l i hlt
    rw [List.drop_eq_getElem_cons hlt] at hr ⊢
    unfold Rise at hr
    obtain ⟨h1, h2, h3⟩ := hr
    have hb : (l[i] - before l i - 1).toNat < 18446744073709551616 := by omega
    have e3 : IntKind.u64.wrap ((l[i] - before l i - 1).toNat : Int) = ((l[i] - before l i - 1).toNat : Int) := u64_in (Int.natCast_nonneg _) (by omega)
    have hlen := enc_len_u64 hb
    have hsz : (mkS acc).size + (mkS (enc (l[i] - before l i - 1).toNat)).size ≤ 9223372036854775807 := by rw [size_mk, size_mk]; omega
    have hih := ih k (i + 1) (acc ++ enc (l[i] - before l i - 1).toNat) (by omega) (by omega) (by omega) (by rw [hbs]; exact h3) (by rw [hbs]; omega) (by rw [List.length_append]; omega)
    rw [hbs] at hih
    simp only [dowserref13_Encode.l0]
    rw [if_pos hI, if_pos (Int.natCast_nonneg _), if_pos hI, rd_at l i hlt, hw2]
    by_cases c3 : (i : Int) > 0
    · have hw : wrap64 ((i : Int) - 1) = ((i - 1 : Nat) : Int) := by rw [w64 (by omega) (by omega)]; omega
      have h4 : ((i - 1 : Nat) : Int) < (l.length : Int) := by omega
      have hbi : before l i = l[i - 1]'(by omega) := by
        have := before_succ l (i - 1) (by omega)
        rw [show i - 1 + 1 = i by omega] at this
        exact this
      have e1 : wrap64 (l[i] - before l i) = l[i] - before l i := w64 (by omega) (by omega)
      have e2 : wrap64 (l[i] - before l i - 1) = ((l[i] - before l i - 1).toNat : Int) := by rw [w64 (by omega) (by omega)]; omega
      rw [if_pos c3, hw, if_pos (Int.natCast_nonneg _), if_pos h4, rd_at l (i - 1) (by omega), ← hbi, e1, e2, e3, refnum_is k _ hb (by omega)]
      simp only [Option.bind_some]
      rw [if_pos hsz, append_mk, hih, encGo, List.append_assoc]
    · obtain rfl : i = 0 := by omega
      have e2 : l[0] = ((l[0] - before l 0 - 1).toNat : Int) := by rw [before_zero] at *; omega
      rw [if_neg c3]
      conv => lhs; rw [show IntKind.u64.wrap l[0] = ((l[0] - before l 0 - 1).toNat : Int) by rw [← e3, ← e2]]
      rw [refnum_is k _ hb (by omega)]
      simp only [Option.bind_some]
      rw [if_pos hsz, append_mk, hih, encGo, List.append_assoc]
theorem refenc_is (k : Nat) (l : List Int) (hl : l.length ≤ 1000) (hk : l.length + 20 < k) (hr : Rise (-1) l) : dowserref13_Encode.f k l = some (mkS (encAll l)) := by
  unfold dowserref13_Encode.f
  have h1 : l.length + 0 ≤ 9223372036854775807 := by omega
  have hlen := enc_len_u64 (x := l.length) (by omega)
  rw [if_pos h1, refnum_is k l.length (by omega) (by omega)]
  simp only [Option.bind_some]
  exact refenc_loop l hl l.length k 0 (enc l.length) (by omega) (by omega) (by omega) hr (Int.le_refl _) (by omega)
end Go.Proofs.Ytefiadhmcdfdoaa.PA
