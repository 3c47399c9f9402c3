/- When pairs rise: the program's test and the document's are one. Conditions: at most a thousand pairs. -/
import Derived.Test.YtefiadhmcdfdoaaPCx2
import Derived.Test.YtefiadhmcdfdoaaPCx7
import Derived.Test.YtefiadhmcdfdoaaPCx8
import Derived.Test.YtefiadhmcdfdoaaPCx9
import Derived.Test.YtefiadhmcdfdoaaSetEnc
namespace Go.Proofs.Ytefiadhmcdfdoaa.PC
open Go.RowKit Go.Proofs.YtefiadhmcdfdoaaW.PrintWords Go.Proofs.YtefiadhmcdfdoaaW.PrintLast Go.Proofs.YtefiadhmcdfdoaaW.PrintMore Go.Proofs.Ytefiadhmcdfdoaa.VarPlain Go.Proofs.Ytefiadhmcdfdoaa.SetPlain
set_option linter.unusedVariables false
abbrev P2 := S76
def atP (l : List P2) (i : Nat) : P2 := rd_T76 l (i : Int)
theorem atP_get (l : List P2) (i : Nat) (h : i < l.length) : atP l i = l[i] := by
  unfold atP rd_T76; rw [Int.toNat_natCast, List.getD_eq_getElem?_getD, List.getElem?_eq_getElem h]; rfl
def num2 (p : P2) : Bool := decide (0 ≤ p.f0 ∧ p.f0 ≤ 2147483647) && decide (0 ≤ p.f1 ∧ p.f1 ≤ 2147483647)
def lt2 (a b : P2) : Bool := decide (a.f0 < b.f0) || (decide (a.f0 = b.f0) && decide (a.f1 < b.f1))
def good2 (l : List P2) (i : Nat) : Bool := num2 (atP l i) && (decide (i = 0) || lt2 (atP l (i - 1)) (atP l i))
def risB (l : List P2) : Nat → Nat → Bool
  | 0, _ => true
  | d + 1, i => good2 l i && risB l d (i + 1)
def ris2 (l : List P2) : Bool := risB l l.length 0
theorem cmp_lt (a b : P2) : ∃ c, setcode_compare.f a.f0 a.f1 b.f0 b.f1 = some c ∧ (c ≥ 0 ↔ lt2 a b = false) := by
  unfold setcode_compare.f lt2
  refine ⟨_, rfl, ?_⟩
  by_cases h1 : a.f0 < b.f0
  · rw [if_pos h1]; simp [h1]
  · rw [if_neg h1]
    by_cases h2 : a.f0 > b.f0
    · have : ¬ a.f0 = b.f0 := by omega
      rw [if_pos h2]; simp [h1, this]
    · have h3 : a.f0 = b.f0 := by omega
      rw [if_neg h2]
      by_cases h4 : a.f1 < b.f1
      · rw [if_pos h4]; simp [h3, h4]
      · rw [if_neg h4]
        split <;> simp [h3, h4]
theorem w64m (i : Nat) (h : i < 1000000) : wrap64 ((i : Int) + 1) = ((i + 1 : Nat) : Int) := by rw [w64 (by omega) (by omega)]; omega
theorem w64s (i : Nat) (h : i < 1000000) : wrap64 (((i + 1 : Nat) : Int) - 1) = (i : Int) := by rw [w64 (by omega) (by omega)]; omega
theorem rise_loop (l : List P2) (hl : l.length ≤ 1000) (d : Nat) : ∀ (k i : Nat), l.length - i = d → i ≤ l.length → d < k → setcode_rise.l0 k l l (l.length : Int) (i : Int) = some (risB l d i) := by
  induction d with
  | zero =>
    intro k i hd hi hk
    obtain ⟨k, rfl⟩ : ∃ m, k = m + 1 := ⟨k - 1, by omega⟩
    rw [setcode_rise.l0, if_neg (by omega)]; rfl
  | succ d ih =>
    intro k i hd hi hk
    obtain ⟨k, rfl⟩ : ∃ m, k = m + 1 := ⟨k - 1, by omega⟩
    have hil : i < l.length := by omega
    have hnext := ih k (i + 1) (by omega) (by omega) (by omega)
    rw [setcode_rise.l0, if_pos (by omega), if_pos (by omega), if_pos (by omega), number_is, number_is]
    simp only [Option.bind_some]
    rw [w64m i (by omega), hnext]
    show _ = some (good2 l i && risB l d (i + 1))
    unfold good2 num2
    show (if decide (0 ≤ (atP l i).f0 ∧ (atP l i).f0 ≤ 2147483647) = true then (if decide (0 ≤ (atP l i).f1 ∧ (atP l i).f1 ≤ 2147483647) = true then _ else _) else _) = _
    cases h1 : decide (0 ≤ (atP l i).f0 ∧ (atP l i).f0 ≤ 2147483647) with
    | false => simp
    | true =>
      cases h2 : decide (0 ≤ (atP l i).f1 ∧ (atP l i).f1 ≤ 2147483647) with
      | false => simp
      | true =>
        simp only [if_true, Bool.true_and]
        match i with
        | 0 => simp
        | j + 1 =>
          rw [if_pos (by omega), w64s j (by omega), if_pos (by omega), if_pos (by omega)]
          obtain ⟨c, hc, hc2⟩ := cmp_lt (atP l j) (atP l (j + 1))
          have hc' : setcode_compare.f (rd_T76 l (j : Int)).f0 (rd_T76 l (j : Int)).f1 (rd_T76 l ((j + 1 : Nat) : Int)).f0 (rd_T76 l ((j + 1 : Nat) : Int)).f1 = some c := hc
          rw [hc']
          simp only [Option.bind_some, Nat.add_sub_cancel]
          cases h3 : lt2 (atP l j) (atP l (j + 1)) with
          | false => rw [if_pos (hc2.2 h3)]; simp
          | true => rw [if_neg (fun h => by have := hc2.1 h; rw [h3] at this; cases this)]; simp
theorem rise_is (k : Nat) (l : List P2) (hl : l.length ≤ 1000) (hk : l.length < k) : setcode_rise.f k l = some (ris2 l) := rise_loop l hl l.length k 0 (by omega) (by omega) hk
theorem refrise_loop (l : List P2) (hl : l.length ≤ 1000) (d : Nat) : ∀ (k i : Nat), l.length - i = d → i ≤ l.length → 2 * d < k → dowserref13_Rise.l0 k l l (l.length : Int) (i : Int) = some (risB l d i) := by
  induction d with
  | zero =>
    intro k i hd hi hk
    obtain ⟨k, rfl⟩ : ∃ m, k = m + 1 := ⟨k - 1, by omega⟩
    rw [dowserref13_Rise.l0, if_neg (by omega)]; rfl
  | succ d ih =>
    intro k i hd hi hk
    obtain ⟨k, rfl⟩ : ∃ m, k = m + 2 := ⟨k - 2, by omega⟩
    have hil : i < l.length := by omega
    have hnext := ih k (i + 1) (by omega) (by omega) (by omega)
    have hj : ∀ q : Bool, dowserref13_Rise.j1 (k + 1) l (i : Int) l (l.length : Int) (i : Int) q (atP l i).f0 (atP l i).f1 = some (!q && ((decide (i = 0) || lt2 (atP l (i - 1)) (atP l i)) && risB l d (i + 1))) := fun q => by
      rw [dowserref13_Rise.j1]
      cases q with
      | true => simp
      | false =>
        rw [if_neg (by simp), w64m i (by omega), hnext]
        match i with
        | 0 => simp
        | j + 1 =>
          rw [if_pos (by omega), w64s j (by omega), if_pos (by omega), if_pos (by omega)]
          show (if (atP l j).f0 > (atP l (j + 1)).f0 then _ else (if (atP l j).f0 = (atP l (j + 1)).f0 then (if (atP l j).f1 ≥ (atP l (j + 1)).f1 then _ else _) else _)) = _
          unfold lt2
          simp only [Nat.add_sub_cancel]
          by_cases c1 : (atP l j).f0 > (atP l (j + 1)).f0
          · have c2 : ¬ (atP l j).f0 < (atP l (j + 1)).f0 := by omega
            have c3 : ¬ (atP l j).f0 = (atP l (j + 1)).f0 := by omega
            rw [if_pos c1]; simp [c2, c3]
          · rw [if_neg c1]
            by_cases c3 : (atP l j).f0 = (atP l (j + 1)).f0
            · rw [if_pos c3]
              have c2 : ¬ (atP l j).f0 < (atP l (j + 1)).f0 := by omega
              by_cases c4 : (atP l j).f1 ≥ (atP l (j + 1)).f1
              · have c5 : ¬ (atP l j).f1 < (atP l (j + 1)).f1 := by omega
                rw [if_pos c4]; simp [c3, c5]
              · have c5 : (atP l j).f1 < (atP l (j + 1)).f1 := by omega
                rw [if_neg c4]; simp [c3, c5]
            · have c2 : (atP l j).f0 < (atP l (j + 1)).f0 := by omega
              rw [if_neg c3]; simp [c2]
    rw [dowserref13_Rise.l0, if_pos (by omega), if_pos (by omega), if_pos (by omega)]
    show (if (atP l i).f0 < 0 then dowserref13_Rise.j1 (k + 1) l (i : Int) l (l.length : Int) (i : Int) true (atP l i).f0 (atP l i).f1 else (if (atP l i).f1 < 0 then dowserref13_Rise.j1 (k + 1) l (i : Int) l (l.length : Int) (i : Int) true (atP l i).f0 (atP l i).f1 else (if (atP l i).f0 > 2147483647 then dowserref13_Rise.j1 (k + 1) l (i : Int) l (l.length : Int) (i : Int) true (atP l i).f0 (atP l i).f1 else dowserref13_Rise.j1 (k + 1) l (i : Int) l (l.length : Int) (i : Int) (decide ((atP l i).f1 > 2147483647)) (atP l i).f0 (atP l i).f1))) = _
    rw [hj, hj]
    show _ = some (good2 l i && risB l d (i + 1))
    unfold good2 num2
    by_cases a1 : (atP l i).f0 < 0
    · have : ¬ (0 ≤ (atP l i).f0 ∧ (atP l i).f0 ≤ 2147483647) := by omega
      rw [if_pos a1, decide_eq_false this]; simp
    · rw [if_neg a1]
      by_cases a2 : (atP l i).f1 < 0
      · have : ¬ (0 ≤ (atP l i).f1 ∧ (atP l i).f1 ≤ 2147483647) := by omega
        rw [if_pos a2, decide_eq_false this]; simp
      · rw [if_neg a2]
        by_cases a3 : (atP l i).f0 > 2147483647
        · have : ¬ (0 ≤ (atP l i).f0 ∧ (atP l i).f0 ≤ 2147483647) := by omega
          rw [if_pos a3, decide_eq_false this]; simp
        · have h0 : 0 ≤ (atP l i).f0 ∧ (atP l i).f0 ≤ 2147483647 := by omega
          rw [if_neg a3, decide_eq_true h0]
          by_cases a4 : (atP l i).f1 > 2147483647
          · have : ¬ (0 ≤ (atP l i).f1 ∧ (atP l i).f1 ≤ 2147483647) := by omega
            rw [decide_eq_true a4, decide_eq_false this]; simp
          · have h1 : 0 ≤ (atP l i).f1 ∧ (atP l i).f1 ≤ 2147483647 := by omega
            rw [decide_eq_false a4, decide_eq_true h1]; simp
theorem refrise_is (k : Nat) (l : List P2) (hl : l.length ≤ 1000) (hk : 2 * l.length < k) : dowserref13_Rise.f k l = some (ris2 l) := refrise_loop l hl l.length k 0 (by omega) (by omega) hk
/-- Every pair of rising ones is of numbers that may be. -/
theorem risB_num (l : List P2) : ∀ (d i : Nat), risB l d i = true → ∀ j, i ≤ j → j < i + d → num2 (atP l j) = true
  | 0, i, _, j, h1, h2 => by omega
  | d + 1, i, h, j, h1, h2 => by
    unfold risB good2 at h
    simp only [Bool.and_eq_true] at h
    by_cases e : j = i
    · subst e; exact h.1.1
    · exact risB_num l d (i + 1) h.2 j (by omega) (by omega)
theorem ris2_num {l : List P2} (h : ris2 l = true) : ∀ p ∈ l, num2 p = true := fun p hp => by
  obtain ⟨j, hj, rfl⟩ := List.getElem_of_mem hp
  have := risB_num l l.length 0 h j (by omega) (by omega)
  rwa [atP_get l j hj] at this
end Go.Proofs.Ytefiadhmcdfdoaa.PC
