/- What any bytes are read as, as pairs: the program's and the document's reading are one, and it turns the pairs' bytes back. Conditions: at most 900 bytes. -/
import Derived.Test.YtefiadhmcdfdoaaPCx10
import Derived.Test.YtefiadhmcdfdoaaPCx9
import Derived.Test.YtefiadhmcdfdoaaPairEnc
import Derived.Test.YtefiadhmcdfdoaaVarRefHead
namespace Go.Proofs.Ytefiadhmcdfdoaa.PC
open Go.RowKit Go.Proofs.YtefiadhmcdfdoaaW.PrintWords Go.Proofs.YtefiadhmcdfdoaaW.PrintLast Go.Proofs.YtefiadhmcdfdoaaW.PrintMore Go.Proofs.Ytefiadhmcdfdoaa.VarPlain Go.Proofs.Ytefiadhmcdfdoaa.SetPlain
set_option linter.unusedVariables false
/-- One number, of at most 31 bits. -/
def rd1 (l : List UInt8) : Nat × List UInt8 × Int := rNum l 0 2147483647
theorem rd1_cases (l : List UInt8) : ((scanL 0 0 l).2.2 = 0 ∧ (scanL 0 0 l).1 ≤ 2147483647 ∧ rd1 l = ((scanL 0 0 l).1, l.drop (scanL 0 0 l).2.1, 0) ∧ (l.drop (scanL 0 0 l).2.1).length < l.length ∧ (scanL 0 0 l).2.1 ≤ l.length) ∨ ((scanL 0 0 l).2.2 = 0 ∧ 2147483647 < (scanL 0 0 l).1 ∧ rd1 l = (0, [], 4)) ∨ ((scanL 0 0 l).2.2 ≠ 0 ∧ rd1 l = (0, [], ((scanL 0 0 l).2.2 : Int))) := by
  have hle := scanL_le l 0 0 (by omega) (by omega)
  unfold rd1 rNum
  rw [if_pos rfl]
  by_cases h : (scanL 0 0 l).2.2 = 0
  · have hp := scanL_pos l 0 0 h
    rw [if_pos h]
    by_cases h2 : 2147483647 < (scanL 0 0 l).1
    · exact .inr (.inl ⟨h, h2, by rw [if_pos h2]⟩)
    · exact .inl ⟨h, by omega, by rw [if_neg h2], by rw [List.length_drop]; omega, by omega⟩
  · exact .inr (.inr ⟨h, by rw [if_neg h]⟩)
theorem rd1_lt (l : List UInt8) : (rd1 l).1 ≤ 2147483647 := (rNum_lt l 0 2147483647).2.1
theorem rd1_less (l : List UInt8) (h : (rd1 l).2.2 = 0) : (rd1 l).2.1.length < l.length := by
  rcases rd1_cases l with ⟨_, _, e, h2, _⟩ | ⟨_, _, e⟩ | ⟨h1, e⟩
  · rw [e]; exact h2
  · rw [e] at h; exact absurd h (by decide)
  · rw [e] at h; exact absurd h (by dsimp only; omega)
theorem rd1_nil (l : List UInt8) (h : (rd1 l).2.2 ≠ 0) : (rd1 l).2.1 = [] := by
  rcases rd1_cases l with ⟨_, _, e, h2, _⟩ | ⟨_, _, e⟩ | ⟨h1, e⟩
  · rw [e] at h; exact absurd rfl h
  · rw [e]
  · rw [e]
theorem rd1_enc (l : List UInt8) (h : (rd1 l).2.2 = 0) : l = enc (rd1 l).1 ++ (rd1 l).2.1 := by
  rcases rd1_cases l with ⟨h1, _, e, h2, _⟩ | ⟨_, _, e⟩ | ⟨h1, e⟩
  · obtain ⟨rest, a, b⟩ := scanL_head l h1
    rw [e]
    show l = enc (scanL 0 0 l).1 ++ l.drop (scanL 0 0 l).2.1
    have hd : ∀ X : List UInt8, l = X ++ rest → l.drop X.length = rest := fun X hX => by rw [hX]; exact List.drop_left
    have : l.drop (scanL 0 0 l).2.1 = rest := by rw [b]; exact hd _ a
    rw [this]; exact a
  · rw [e] at h; exact absurd h (by decide)
  · rw [e] at h; exact absurd h (by dsimp only; omega)
theorem rd1_of_enc (y : Nat) (rest : List UInt8) (h : y ≤ 2147483647) : rd1 (enc y ++ rest) = (y, rest, 0) := rNum_enc y rest 2147483647 (by omega) h
/-- n pairs. -/
def parP : Nat → List UInt8 → List P2 × List UInt8 × Int
  | 0, l => ([], l, 0)
  | n + 1, l => if (rd1 l).2.2 ≠ 0 then ([], [], (rd1 l).2.2) else if (rd1 (rd1 l).2.1).2.2 ≠ 0 then ([], [], (rd1 (rd1 l).2.1).2.2) else
    ((⟨((rd1 l).1 : Int), ((rd1 (rd1 l).2.1).1 : Int)⟩ : P2) :: (parP n (rd1 (rd1 l).2.1).2.1).1, (parP n (rd1 (rd1 l).2.1).2.1).2.1, (parP n (rd1 (rd1 l).2.1).2.1).2.2)
def finA (acc : List P2) (t : List P2 × List UInt8 × Int) : List P2 × Int :=
  if t.2.2 ≠ 0 then ([], t.2.2) else if t.2.1 ≠ [] then ([], 3) else if ris2 (acc ++ t.1) = true then (acc ++ t.1, 0) else ([], 1)
def fromP (l : List UInt8) : List P2 × Int := if (rd1 l).2.2 ≠ 0 then ([], (rd1 l).2.2) else finA [] (parP (rd1 l).1 (rd1 l).2.1)
theorem fromP_err (n : Int) (acc : List P2) (e : Int) (he : e ≠ 0) (k : Nat) : setcode_FromPairs.l0 (k + 3) acc n (mkS []) e = some ([], e) := by
  have heb : (e == 0) = false := beq_eq_false_iff_ne.mpr he
  have hj : setcode_FromPairs.j1 (k + 2) acc n false (mkS []) e = some ([], e) := by
    rw [setcode_FromPairs.j1, if_neg (by simp), end_is, lst_mk, if_pos rfl]
    simp only [Option.bind_some]
    rw [if_neg he, setcode_FromPairs.j2, if_neg (by simp), if_neg he]
  rw [setcode_FromPairs.l0]
  by_cases h : n > 0
  · rw [if_pos h, err_is]
    simp only [Option.bind_some]
    rw [heb]; exact hj
  · rw [if_neg h]; exact hj
theorem fromP_loop (d : Nat) : ∀ (l : List UInt8) (n : Nat) (acc : List P2) (k : Nat), l.length ≤ d → n ≤ 2147483647 → acc.length + l.length ≤ 990 → 10 * l.length + acc.length + 20 < k →
    setcode_FromPairs.l0 k acc (n : Int) (mkS l) 0 = some (finA acc (parP n l)) := by
  induction d with
  | zero =>
    intro l n acc k hd hn hl hk
    have hl0 : l = [] := List.eq_nil_of_length_eq_zero (by omega)
    subst hl0
    obtain ⟨k, rfl⟩ : ∃ m, k = m + 6 := ⟨k - 6, by omega⟩
    match n with
    | 0 =>
      rw [setcode_FromPairs.l0, if_neg (by omega), setcode_FromPairs.j1, if_neg (by simp), end_is, lst_mk, if_pos rfl]
      simp only [Option.bind_some]
      rw [if_pos trivial, rise_is _ acc (by simp at hl; omega) (by simp at hk; omega)]
      simp only [Option.bind_some]
      rw [setcode_FromPairs.j2]
      unfold finA parP
      simp only [ne_eq, not_true_eq_false, if_false, List.append_nil]
      cases ris2 acc <;> simp
    | n + 1 =>
      have h0 : rd1 [] = (0, [], 2) := by decide
      have hin := innum_is (k + 4) (mkS []) 0 2147483647 (by rw [size_mk]; simp) (by rw [size_mk]; simp)
      rw [lst_mk] at hin
      have hin2 : varint_In_Num.f (k + 4) (mkS []) 0 2147483647 = some (0, mkS [], 2) := by
        have : rNum [] 0 2147483647 = (0, [], 2) := h0
        rw [this] at hin; exact hin
      have hin3 : varint_In_Num.f (k + 4) (mkS []) 2 2147483647 = some (0, mkS [], 2) := by
        have hin := innum_is (k + 4) (mkS []) 2 2147483647 (by rw [size_mk]; simp) (by rw [size_mk]; simp)
        rw [lst_mk] at hin
        exact hin
      rw [setcode_FromPairs.l0, if_pos (by omega), err_is]
      simp only [Option.bind_some]
      rw [setcode_FromPairs.j1, if_pos (show ((0 : Int) == 0) = true from by decide), hin2]
      simp only [Option.bind_some]
      rw [hin3]
      simp only [Option.bind_some]
      rw [if_pos (by simp at hl; omega), fromP_err _ _ 2 (by decide) (k + 1)]
      unfold finA parP
      rw [h0]; simp
  | succ d ih =>
    intro l n acc k hd hn hl hk
    obtain ⟨k, rfl⟩ : ∃ m, k = m + 6 := ⟨k - 6, by omega⟩
    match n with
    | 0 =>
      rw [setcode_FromPairs.l0, if_neg (by omega), setcode_FromPairs.j1, if_neg (by simp), end_is, lst_mk]
      simp only [Option.bind_some]
      unfold finA parP
      by_cases h : l = []
      · rw [if_pos h, if_pos rfl, rise_is _ acc (by omega) (by omega)]
        simp only [Option.bind_some]
        rw [setcode_FromPairs.j2]
        simp only [ne_eq, not_true_eq_false, if_false, List.append_nil, h]
        cases ris2 acc <;> simp
      · rw [if_neg h, if_neg (by decide), setcode_FromPairs.j2]
        simp [h]
    | n + 1 =>
      have hin := innum_is (k + 4) (mkS l) 0 2147483647 (by rw [size_mk]; omega) (by rw [size_mk]; omega)
      rw [lst_mk] at hin
      have hin2 : varint_In_Num.f (k + 4) (mkS l) 0 2147483647 = some (((rd1 l).1 : Int), mkS (rd1 l).2.1, (rd1 l).2.2) := hin
      have ha := rd1_lt l
      rw [setcode_FromPairs.l0, if_pos (by omega), err_is]
      simp only [Option.bind_some]
      rw [setcode_FromPairs.j1, if_pos (show ((0 : Int) == 0) = true from by decide), hin2]
      simp only [Option.bind_some]
      by_cases h1 : (rd1 l).2.2 = 0
      · have hl1 := rd1_less l h1
        rw [h1]
        have hin := innum_is (k + 4) (mkS (rd1 l).2.1) 0 2147483647 (by rw [size_mk]; omega) (by rw [size_mk]; omega)
        rw [lst_mk] at hin
        have hin3 : varint_In_Num.f (k + 4) (mkS (rd1 l).2.1) 0 2147483647 = some (((rd1 (rd1 l).2.1).1 : Int), mkS (rd1 (rd1 l).2.1).2.1, (rd1 (rd1 l).2.1).2.2) := hin
        have hb := rd1_lt (rd1 l).2.1
        rw [hin3]
        simp only [Option.bind_some]
        rw [if_pos (by omega), w64 (by omega) (by omega), w64 (by omega) (by omega), show ((n + 1 : Nat) : Int) - 1 = (n : Int) by omega, u64_in (by omega) (by omega)]
        by_cases h2 : (rd1 (rd1 l).2.1).2.2 = 0
        · have hl2 := rd1_less _ h2
          rw [h2, ih _ n _ (k + 4) (by omega) (by omega) (by rw [List.length_append, List.length_singleton]; omega) (by rw [List.length_append, List.length_singleton]; omega)]
          have hp : parP (n + 1) l = ((⟨((rd1 l).1 : Int), ((rd1 (rd1 l).2.1).1 : Int)⟩ : P2) :: (parP n (rd1 (rd1 l).2.1).2.1).1, (parP n (rd1 (rd1 l).2.1).2.1).2.1, (parP n (rd1 (rd1 l).2.1).2.1).2.2) := by
            rw [parP, if_neg (by rw [h1]; simp), if_neg (by rw [h2]; simp)]
          rw [hp]
          unfold finA
          simp only [List.append_assoc, List.singleton_append]
        · rw [rd1_nil _ h2, fromP_err _ _ _ h2 (k + 1)]
          have hp : parP (n + 1) l = ([], [], (rd1 (rd1 l).2.1).2.2) := by
            rw [parP, if_neg (by rw [h1]; simp), if_pos h2]
          rw [hp]; unfold finA; rw [if_pos h2]
      · have hin := innum_is (k + 4) (mkS []) (rd1 l).2.2 2147483647 (by rw [size_mk]; simp) (by rw [size_mk]; simp)
        rw [lst_mk] at hin
        have hin3 : varint_In_Num.f (k + 4) (mkS []) (rd1 l).2.2 2147483647 = some (0, mkS [], (rd1 l).2.2) := by
          have : rNum [] (rd1 l).2.2 2147483647 = (0, [], (rd1 l).2.2) := by unfold rNum; rw [if_neg h1]
          rw [this] at hin; exact hin
        rw [rd1_nil l h1, hin3]
        simp only [Option.bind_some]
        rw [if_pos (by omega), fromP_err _ _ _ h1 (k + 1)]
        have hp : parP (n + 1) l = ([], [], (rd1 l).2.2) := by rw [parP, if_pos h1]
        rw [hp]; unfold finA; rw [if_pos h1]
theorem fromP_is (k : Nat) (l : List UInt8) (hl : l.length ≤ 900) (hk : 10 * l.length + 40 < k) : setcode_FromPairs.f k (mkS l) = some (fromP l) := by
  unfold setcode_FromPairs.f fromP
  have hin := innum_is k (mkS l) 0 2147483647 (by rw [size_mk]; omega) (by rw [size_mk]; omega)
  rw [lst_mk] at hin
  have hin2 : varint_In_Num.f k (mkS l) 0 2147483647 = some (((rd1 l).1 : Int), mkS (rd1 l).2.1, (rd1 l).2.2) := hin
  simp only [varint_Of.f, Option.bind_some]
  rw [hin2]
  simp only [Option.bind_some]
  by_cases h1 : (rd1 l).2.2 = 0
  · have hl1 := rd1_less l h1
    rw [if_neg (by rw [h1]; simp), h1]
    exact fromP_loop _ _ _ [] k (Nat.le_refl _) (rd1_lt l) (by simp; omega) (by simp; omega)
  · obtain ⟨k, rfl⟩ : ∃ m, k = m + 3 := ⟨k - 3, by omega⟩
    rw [if_pos h1, rd1_nil l h1, fromP_err _ _ _ h1 k]
end Go.Proofs.Ytefiadhmcdfdoaa.PC
