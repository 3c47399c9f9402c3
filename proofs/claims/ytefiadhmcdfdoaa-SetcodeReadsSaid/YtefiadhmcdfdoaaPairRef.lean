/- The document's reading of pairs; pairs' bytes read back, and what is read has just these bytes. Conditions: at most 900 bytes. -/
import Derived.Test.YtefiadhmcdfdoaaPCx10
import Derived.Test.YtefiadhmcdfdoaaPCx9
import Derived.Test.YtefiadhmcdfdoaaPairDec
namespace Go.Proofs.Ytefiadhmcdfdoaa.PC
open Go.RowKit Go.Proofs.YtefiadhmcdfdoaaW.PrintWords Go.Proofs.YtefiadhmcdfdoaaW.PrintLast Go.Proofs.YtefiadhmcdfdoaaW.PrintMore Go.Proofs.Ytefiadhmcdfdoaa.VarPlain Go.Proofs.Ytefiadhmcdfdoaa.SetPlain
set_option linter.unusedVariables false
theorem h0_step (k : Nat) (l : List UInt8) (hl : l.length ≤ 1000) (hk : 3 * l.length + 4 < k) (i : Nat) (n : Int) (out : List P2) (h : Nat) (hh : h < 2) (a b : Int) :
    dowserref13_FromPairs.h0 (k + 1) (mkS l) i n out h a b = if (rd1 l).2.2 ≠ 0 then some ([], (rd1 l).2.2) else dowserref13_FromPairs.h0 k (mkS (rd1 l).2.1) i n out (h + 1) (if h = 0 then ((rd1 l).1 : Int) else a) (if h = 0 then b else ((rd1 l).1 : Int)) := by
  have hd := head_is k (mkS l) (by rw [size_mk]; omega) (by rw [size_mk]; omega)
  rw [lst_mk] at hd
  rw [dowserref13_FromPairs.h0, if_pos hh, hd]
  simp only [Option.bind_some]
  rcases rd1_cases l with ⟨h1, h2, e, h3, h4⟩ | ⟨h1, h2, e⟩ | ⟨h1, e⟩
  · rw [e, h1]
    rw [if_pos (by rfl), if_neg (by omega), if_pos (by omega), if_pos (by rw [size_mk]; omega), Int.toNat_natCast, extract_from, lst_mk, w64 (by omega) (by omega)]
    simp
  · rw [e, h1]
    rw [if_pos (by rfl), if_pos (by omega)]
    simp
  · rw [e]
    rw [if_neg (by omega)]
    have : ((scanL 0 0 l).2.2 : Int) ≠ 0 := by omega
    exact (if_pos this).symm
theorem refP_loop (d : Nat) : ∀ (l : List UInt8) (m i : Nat) (out : List P2) (k : Nat), l.length ≤ d → out.length + l.length ≤ 990 → 20 * l.length + 2 * out.length + 40 < k →
    dowserref13_FromPairs.l0 k (mkS l) i ((i + m : Nat) : Int) out = some (finA out (parP m l)) := by
  induction d with
  | zero =>
    intro l m i out k hd hl hk
    obtain ⟨k, rfl⟩ : ∃ m, k = m + 4 := ⟨k - 4, by omega⟩
    match m with
    | 0 =>
      have hl0 : l = [] := List.eq_nil_of_length_eq_zero (by omega)
      subst hl0
      rw [dowserref13_FromPairs.l0, if_neg (by omega), toList_lst, lst_mk, if_pos rfl, refrise_is _ out (by omega) (by omega)]
      simp only [Option.bind_some]
      unfold finA parP
      simp only [ne_eq, not_true_eq_false, if_false, List.append_nil]
      cases ris2 out <;> simp
    | m + 1 =>
      have hl0 : l = [] := List.eq_nil_of_length_eq_zero (by omega)
      subst hl0
      have h0 : rd1 [] = (0, [], 2) := by decide
      rw [dowserref13_FromPairs.l0, if_pos (by omega), h0_step _ [] (by simp) (by simp; omega) _ _ _ 0 (by omega), h0]
      unfold finA parP
      rw [h0]; simp
  | succ d ih =>
    intro l m i out k hd hl hk
    obtain ⟨k, rfl⟩ : ∃ m, k = m + 4 := ⟨k - 4, by omega⟩
    match m with
    | 0 =>
      rw [dowserref13_FromPairs.l0, if_neg (by omega), toList_lst, lst_mk]
      unfold finA parP
      by_cases h : l = []
      · rw [if_pos h, refrise_is _ out (by omega) (by omega)]
        simp only [Option.bind_some, ne_eq, not_true_eq_false, if_false, List.append_nil, h]
        cases ris2 out <;> simp
      · rw [if_neg h]; simp [h]
    | m + 1 =>
      rw [dowserref13_FromPairs.l0, if_pos (by omega), h0_step _ l (by omega) (by omega) _ _ _ 0 (by omega)]
      by_cases h1 : (rd1 l).2.2 = 0
      · have hl1 := rd1_less l h1
        rw [if_neg (by rw [h1]; simp), h0_step _ _ (by omega) (by omega) _ _ _ _ (by omega)]
        by_cases h2 : (rd1 (rd1 l).2.1).2.2 = 0
        · have hl2 := rd1_less _ h2
          rw [if_neg (by rw [h2]; simp), dowserref13_FromPairs.h0, if_neg (by omega), if_pos (by omega)]
          simp only [if_true, show ¬ (0 + 1 = 0) by omega, if_false]
          have hih := ih (rd1 (rd1 l).2.1).2.1 m (i + 1) (out ++ [(⟨((rd1 l).1 : Int), ((rd1 (rd1 l).2.1).1 : Int)⟩ : P2)]) k (by omega) (by rw [List.length_append, List.length_singleton]; omega) (by rw [List.length_append, List.length_singleton]; omega)
          rw [show i + 1 + m = i + (m + 1) by omega] at hih
          rw [hih]
          have hp : parP (m + 1) l = ((⟨((rd1 l).1 : Int), ((rd1 (rd1 l).2.1).1 : Int)⟩ : P2) :: (parP m (rd1 (rd1 l).2.1).2.1).1, (parP m (rd1 (rd1 l).2.1).2.1).2.1, (parP m (rd1 (rd1 l).2.1).2.1).2.2) := by
            rw [parP, if_neg (by rw [h1]; simp), if_neg (by rw [h2]; simp)]
          rw [hp]
          unfold finA
          simp only [List.append_assoc, List.singleton_append]
        · rw [if_pos h2]
          have hp : parP (m + 1) l = ([], [], (rd1 (rd1 l).2.1).2.2) := by
            rw [parP, if_neg (by rw [h1]; simp), if_pos h2]
          rw [hp]; unfold finA; rw [if_pos h2]
      · rw [if_pos h1]
        have hp : parP (m + 1) l = ([], [], (rd1 l).2.2) := by rw [parP, if_pos h1]
        rw [hp]; unfold finA; rw [if_pos h1]
theorem refP_is (k : Nat) (l : List UInt8) (hl : l.length ≤ 900) (hk : 20 * l.length + 60 < k) : dowserref13_FromPairs.f k (mkS l) = some (fromP l) := by
  unfold dowserref13_FromPairs.f fromP
  have hd := head_is k (mkS l) (by rw [size_mk]; omega) (by rw [size_mk]; omega)
  rw [lst_mk] at hd
  rw [hd]
  simp only [Option.bind_some]
  rcases rd1_cases l with ⟨h1, h2, e, h3, h4⟩ | ⟨h1, h2, e⟩ | ⟨h1, e⟩
  · rw [e, h1]
    rw [if_pos (by rfl), if_neg (by omega), if_pos (by omega), if_pos (by rw [size_mk]; omega), Int.toNat_natCast, extract_from, lst_mk]
    have := refP_loop (l.drop (scanL 0 0 l).2.1).length (l.drop (scanL 0 0 l).2.1) (scanL 0 0 l).1 0 [] k (Nat.le_refl _) (by simp; omega) (by simp only [List.length_nil]; omega)
    rw [Nat.zero_add] at this
    rw [this]; simp
  · rw [e, h1]
    rw [if_pos (by rfl), if_pos (by omega)]
    simp
  · rw [e]
    rw [if_neg (by omega)]
    have : ((scanL 0 0 l).2.2 : Int) ≠ 0 := by omega
    exact congrArg some (if_pos this).symm
/-! ### There and back -/
theorem parP_enc : ∀ (m : List P2), (∀ p ∈ m, num2 p = true) → ∀ rest, parP m.length (encP m ++ rest) = (m, rest, 0)
  | [], _, rest => by simp [parP, encP]
  | p :: m, h, rest => by
    have hp := num2_is (h p (by simp))
    have ih := parP_enc m (fun q hq => h q (List.mem_cons_of_mem _ hq)) rest
    have e1 : rd1 (encP (p :: m) ++ rest) = (p.f0.toNat, enc p.f1.toNat ++ (encP m ++ rest), 0) := by
      rw [encP, List.append_assoc, List.append_assoc]; exact rd1_of_enc _ _ hp.1.2
    have e2 : rd1 (enc p.f1.toNat ++ (encP m ++ rest)) = (p.f1.toNat, encP m ++ rest, 0) := rd1_of_enc _ _ hp.2.2
    rw [List.length_cons, parP, e1]
    simp only [ne_eq, not_true_eq_false, if_false]
    rw [e2]
    simp only [not_true_eq_false, if_false]
    rw [ih, ← hp.1.1, ← hp.2.1]
theorem fromP_enc (m : List P2) (h : ris2 m = true) (hm : m.length ≤ 1000) : fromP (encPAll m) = (m, 0) := by
  have hn := ris2_num h
  unfold fromP encPAll
  rw [rd1_of_enc m.length (encP m) (by omega)]
  simp only [ne_eq, not_true_eq_false, if_false]
  have := parP_enc m hn []
  rw [List.append_nil] at this
  rw [this]
  unfold finA
  simp [h]
theorem parP_back : ∀ (n : Nat) (l : List UInt8), (parP n l).2.2 = 0 → (parP n l).1.length = n ∧ l = encP (parP n l).1 ++ (parP n l).2.1
  | 0, l, _ => ⟨rfl, by simp [parP, encP]⟩
  | n + 1, l, h => by
    by_cases h1 : (rd1 l).2.2 = 0
    · by_cases h2 : (rd1 (rd1 l).2.1).2.2 = 0
      · have hp : parP (n + 1) l = ((⟨((rd1 l).1 : Int), ((rd1 (rd1 l).2.1).1 : Int)⟩ : P2) :: (parP n (rd1 (rd1 l).2.1).2.1).1, (parP n (rd1 (rd1 l).2.1).2.1).2.1, (parP n (rd1 (rd1 l).2.1).2.1).2.2) := by
          rw [parP, if_neg (by rw [h1]; simp), if_neg (by rw [h2]; simp)]
        rw [hp] at h ⊢
        have ih := parP_back n _ h
        refine ⟨by rw [List.length_cons, ih.1], ?_⟩
        have a1 := rd1_enc l h1
        have a2 := rd1_enc (rd1 l).2.1 h2
        show l = (enc (((rd1 l).1 : Int)).toNat ++ (enc (((rd1 (rd1 l).2.1).1 : Int)).toNat ++ encP _)) ++ _
        rw [Int.toNat_natCast, Int.toNat_natCast, List.append_assoc, List.append_assoc, ← ih.2, ← a2]
        exact a1
      · rw [parP, if_neg (by rw [h1]; simp), if_pos h2] at h
        exact absurd h h2
    · rw [parP, if_pos h1] at h
      exact absurd h h1
theorem fromP_back (l : List UInt8) (h : (fromP l).2 = 0) : ris2 (fromP l).1 = true ∧ l = encPAll (fromP l).1 ∧ (fromP l).1.length ≤ l.length := by
  unfold fromP at h ⊢
  by_cases h1 : (rd1 l).2.2 = 0
  · rw [if_neg (by rw [h1]; simp)] at h ⊢
    unfold finA at h ⊢
    by_cases h2 : (parP (rd1 l).1 (rd1 l).2.1).2.2 = 0
    · have hb := parP_back _ _ h2
      rw [if_neg (by rw [h2]; simp)] at h ⊢
      by_cases h3 : (parP (rd1 l).1 (rd1 l).2.1).2.1 = []
      · rw [if_neg (by rw [h3]; simp)] at h ⊢
        rw [List.nil_append] at h ⊢
        cases h4 : ris2 (parP (rd1 l).1 (rd1 l).2.1).1 with
        | false => rw [h4] at h; simp at h
        | true =>
          rw [if_pos rfl]
          have a1 := rd1_enc l h1
          rw [h3, List.append_nil] at hb
          refine ⟨h4, ?_, ?_⟩
          · unfold encPAll
            rw [hb.1, ← hb.2]; exact a1
          · show (parP (rd1 l).1 (rd1 l).2.1).1.length ≤ _
            have hl1 := rd1_less l h1
            have : ∀ m : List P2, m.length ≤ (encP m).length := fun m => by
              induction m with
              | nil => simp
              | cons p m ih => have := enc_len_pos p.f0.toNat; simp only [encP, List.length_append, List.length_cons]; omega
            have h5 := this (parP (rd1 l).1 (rd1 l).2.1).1
            rw [← hb.2] at h5
            omega
      · rw [if_pos h3] at h; exact absurd h (by decide)
    · rw [if_pos h2] at h; exact absurd h h2
  · rw [if_pos h1] at h; exact absurd h h1
theorem same2_loop (l : List P2) (hl : l.length ≤ 1000) (d : Nat) : ∀ (k i : Nat), l.length - i = d → i ≤ l.length → d < k → dowserlaw13_same.l0 k l l (l.length : Int) (i : Int) = some true := by
  induction d with
  | zero =>
    intro k i hd hi hk
    obtain ⟨k, rfl⟩ : ∃ m, k = m + 1 := ⟨k - 1, by omega⟩
    rw [dowserlaw13_same.l0, if_neg (by omega)]
  | succ d ih =>
    intro k i hd hi hk
    obtain ⟨k, rfl⟩ : ∃ m, k = m + 1 := ⟨k - 1, by omega⟩
    rw [dowserlaw13_same.l0, if_pos (by omega), if_pos (by omega), if_pos (by omega), if_pos (by omega), if_neg (by simp), w64m i (by omega)]
    exact ih k (i + 1) (by omega) (by omega) (by omega)
theorem same2_is (k : Nat) (l : List P2) (hl : l.length ≤ 1000) (hk : l.length < k) : dowserlaw13_same.f k l l = some true := by
  unfold dowserlaw13_same.f
  rw [if_pos rfl]
  exact same2_loop l hl l.length k 0 (by omega) (by omega) hk
end Go.Proofs.Ytefiadhmcdfdoaa.PC
