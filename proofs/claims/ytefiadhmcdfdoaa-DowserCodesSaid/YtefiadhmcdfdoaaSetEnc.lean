/- What Encode comes to: a set's bytes, or that it is none. -/
import Derived.Test.YtefiadhmcdfdoaaPDx1
import Derived.Test.YtefiadhmcdfdoaaVarRun
import Derived.Test.YtefiadhmcdfdoaaSetPlain
namespace Go.Proofs.Ytefiadhmcdfdoaa.PD
open Go.RowKit Go.Proofs.YtefiadhmcdfdoaaW.PrintWords Go.Proofs.YtefiadhmcdfdoaaW.PrintLast Go.Proofs.YtefiadhmcdfdoaaW.PrintMore Go.Proofs.Ytefiadhmcdfdoaa.VarPlain Go.Proofs.Ytefiadhmcdfdoaa.SetPlain
theorem w64 {a : Int} (h0 : -9223372036854775808 ≤ a) (h1 : a ≤ 9223372036854775807) : wrap64 a = a := by unfold wrap64; omega
theorem rd_at (l : List Int) (i : Nat) (h : i < l.length) : rd l (i : Int) = l[i] := by
  unfold rd; rw [Int.toNat_natCast, List.getD_eq_getElem?_getD, List.getElem?_eq_getElem h]; rfl
theorem is_loop (l : List Int) (hl : l.length ≤ 1000) (d : Nat) : ∀ (k i : Nat), l.length - i = d → 0 < i → i ≤ l.length → d < k →
    ids_Is.l0 k l (i : Int) = some (decide (Srt (l.drop (i - 1)))) := by
  induction d with
  | zero =>
    intro k i hd hi hle hk
    obtain ⟨k, rfl⟩ : ∃ m, k = m + 1 := ⟨k - 1, by omega⟩
    have h1 : ¬ (i : Int) < (l.length : Int) := by omega
    have h2 : l.drop (i - 1) = [l[i - 1]'(by omega)] := by
      rw [List.drop_eq_getElem_cons (by omega), List.drop_eq_nil_of_le (by omega)]
    simp only [ids_Is.l0]
    rw [if_neg h1, h2]; rfl
  | succ d ih =>
    intro k i hd hi hle hk
    obtain ⟨k, rfl⟩ : ∃ m, k = m + 1 := ⟨k - 1, by omega⟩
    have h1 : (i : Int) < (l.length : Int) := by omega
    have hw : wrap64 ((i : Int) - 1) = ((i - 1 : Nat) : Int) := by rw [w64 (by omega) (by omega)]; omega
    have hw2 : wrap64 ((i : Int) + 1) = ((i + 1 : Nat) : Int) := by rw [w64 (by omega) (by omega)]; omega
    have h3 : ((i - 1 : Nat) : Int) < (l.length : Int) := by omega
    have h4 : l.drop (i - 1) = l[i - 1]'(by omega) :: l[i]'(by omega) :: l.drop (i + 1) := by
      rw [List.drop_eq_getElem_cons (show i - 1 < l.length by omega), show i - 1 + 1 = i by omega, List.drop_eq_getElem_cons (show i < l.length by omega)]
    have h5 : l.drop (i + 1 - 1) = l[i]'(by omega) :: l.drop (i + 1) := by rw [Nat.add_sub_cancel, List.drop_eq_getElem_cons (show i < l.length by omega)]
    have hih := ih k (i + 1) (by omega) (by omega) (by omega) (by omega)
    simp only [ids_Is.l0]
    rw [if_pos h1, hw, if_pos (Int.natCast_nonneg _), if_pos h3, if_pos (Int.natCast_nonneg _), rd_at l (i - 1) (by omega), rd_at l i (by omega), hw2, hih, h4, h5]
    by_cases hlt : l[i - 1]'(by omega) < l[i]'(by omega)
    · rw [if_neg (by omega)]
      simp only [Srt, hlt, true_and]
    · rw [if_pos (by omega)]
      simp only [Srt, hlt, false_and, decide_false]
theorem is_is (k : Nat) (l : List Int) (hl : l.length ≤ 1000) (hk : l.length < k) : ids_Is.f k l = some (decide (Srt l)) := by
  unfold ids_Is.f
  cases l with
  | nil =>
    obtain ⟨k, rfl⟩ : ∃ m, k = m + 1 := ⟨k - 1, by omega⟩
    rfl
  | cons x l => exact is_loop (x :: l) hl (l.length) k 1 (by simp) (by omega) (by simp) (by rw [List.length_cons] at hk; omega)
theorem number_is (x : Int) : setcode_number.f x = some (decide (0 ≤ x ∧ x ≤ 2147483647)) := by
  unfold setcode_number.f
  by_cases h : 0 ≤ x
  · rw [if_pos h]; simp [h]
  · rw [if_neg h]; simp [h]
theorem enc_loop (l : List Int) (hl : l.length ≤ 1000) (d : Nat) : ∀ (k i : Nat) (last : Int) (acc : List UInt8), l.length - i = d → i ≤ l.length → d + 11 < k → Rise last (l.drop i) → -1 ≤ last → acc.length ≤ 20 + 10 * i →
    setcode_Encode.l0 k l i last acc = some (mkS (acc ++ encGo last (l.drop i))) := by
  induction d with
  | zero =>
    intro k i last acc hd hi hk _ _ _
    obtain ⟨k, rfl⟩ : ∃ m, k = m + 1 := ⟨k - 1, by omega⟩
    simp only [setcode_Encode.l0]
    rw [if_neg (by omega), List.drop_eq_nil_of_le (by omega)]
    show _ = some (mkS (acc ++ []))
    rw [List.append_nil]; rfl
  | succ d ih =>
    intro k i last acc hd hi hk hr hlast ha
    obtain ⟨k, rfl⟩ : ∃ m, k = m + 1 := ⟨k - 1, by omega⟩
    have hlt : i < l.length := by omega
    rw [List.drop_eq_getElem_cons hlt] at hr ⊢
    unfold Rise at hr
    obtain ⟨h1, h2, h3⟩ := hr
    have e1 : wrap64 (l[i] - last) = l[i] - last := w64 (by omega) (by omega)
    have e2 : wrap64 (l[i] - last - 1) = ((l[i] - last - 1).toNat : Int) := by rw [w64 (by omega) (by omega)]; omega
    have hb : (l[i] - last - 1).toNat < 18446744073709551616 := by omega
    have e3 : IntKind.u64.wrap ((l[i] - last - 1).toNat : Int) = ((l[i] - last - 1).toNat : Int) := u64_in (Int.natCast_nonneg _) (by omega)
    have hlen := enc_len_u64 hb
    have hsz : acc.length + (mkS (enc (l[i] - last - 1).toNat)).size ≤ 140737488355328 := by rw [size_mk]; omega
    have hih := ih k (i + 1) l[i] (acc ++ enc (l[i] - last - 1).toNat) (by omega) (by omega) (by omega) h3 (by omega) (by rw [List.length_append]; omega)
    simp only [setcode_Encode.l0]
    rw [if_pos hlt, rd_at l i hlt, e1, e2, e3, num_is k _ hb (by omega)]
    simp only [Option.bind_some]
    rw [if_pos hsz]
    show setcode_Encode.l0 k l (i + 1) l[i] (acc ++ lst (mkS (enc (l[i] - last - 1).toNat))) = _
    rw [lst_mk, hih, encGo, List.append_assoc]
theorem enc_b (k : Nat) (l : List Int) (hl : l.length ≤ 1000) (hk : l.length + 20 < k) (hr : Rise (-1) l) : setcode_Encode.b k l = some (mkS (encAll l), 0) := by
  unfold setcode_Encode.b
  have h1 : l.length ≤ 9223372036854775807 := by omega
  have hlen := enc_len_u64 (x := l.length) (by omega)
  have h2 : (mkS (enc l.length)).size ≤ 140737488355328 := by rw [size_mk]; omega
  rw [if_pos h1, num_is k l.length (by omega) (by omega)]
  simp only [Option.bind_some]
  rw [if_pos h2]
  show (setcode_Encode.l0 k l 0 (-1) (lst (mkS (enc l.length)))).bind _ = _
  rw [lst_mk, enc_loop l hl l.length k 0 (-1) (enc l.length) (by omega) (by omega) (by omega) hr (Int.le_refl _) (by omega)]
  rfl
theorem enc_is (k : Nat) (l : List Int) (hl : l.length ≤ 1000) (hk : l.length + 20 < k) : setcode_Encode.f k l = some (if Rise (-1) l then (mkS (encAll l), 0) else (⟨#[]⟩, 1)) := by
  unfold setcode_Encode.f
  rw [is_is k l hl (by omega)]
  simp only [Option.bind_some]
  by_cases h0 : 0 < l.length
  · have hri := rise_iff l h0
    have hw : wrap64 ((l.length : Int) - 1) = ((l.length - 1 : Nat) : Int) := by rw [w64 (by omega) (by omega)]; omega
    rw [if_pos h0, hw, number_is, number_is]
    have g0 : rd l 0 = l.getD 0 0 := rfl
    have g1 : rd l ((l.length - 1 : Nat) : Int) = l.getD (l.length - 1) 0 := by unfold rd; rw [Int.toNat_natCast]
    rw [g0, g1]
    simp only [Option.bind_some, decide_eq_true_eq]
    by_cases c1 : Srt l
    · by_cases c2 : 0 ≤ l.getD 0 0 ∧ l.getD 0 0 ≤ 2147483647
      · by_cases c3 : 0 ≤ l.getD (l.length - 1) 0 ∧ l.getD (l.length - 1) 0 ≤ 2147483647
        · have hr := hri.2 ⟨c1, c2, c3⟩
          rw [if_pos c1, if_pos c2, if_pos c3, if_pos hr, enc_b k l hl hk hr]
        · rw [if_pos c1, if_pos c2, if_neg c3, if_neg (fun h => c3 (hri.1 h).2.2)]
      · rw [if_pos c1, if_neg c2, if_neg (fun h => c2 (hri.1 h).2.1)]
    · rw [if_neg c1, if_neg (fun h => c1 (hri.1 h).1)]
  · have hn : l = [] := by cases l with
      | nil => rfl
      | cons _ _ => simp at h0
    subst hn
    have hr : Rise (-1) [] := trivial
    have hs : decide (Srt []) = true := rfl
    rw [hs, if_pos rfl, if_neg (by simp), if_pos hr, enc_b k [] hl hk hr]
end Go.Proofs.Ytefiadhmcdfdoaa.PD
