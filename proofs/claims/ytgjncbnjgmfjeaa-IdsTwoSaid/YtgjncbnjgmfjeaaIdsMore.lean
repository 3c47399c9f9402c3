/- Sets: what is kept of one, which of two is the greater, whether they meet. Conditions: lists of at most a million numbers. -/
import Derived.Test.YtgjncbnjgmfjeaaPAx2
import Derived.Test.YtgjncbnjgmfjeaaPAx27
import Derived.Test.YtgjncbnjgmfjeaaPAx28
import Derived.Test.YtgjncbnjgmfjeaaPAx29
import Derived.Test.YtgjncbnjgmfjeaaPAx30
import Derived.Test.YtgjncbnjgmfjeaaPAx31
import Derived.Test.YtgjncbnjgmfjeaaPAx32
import Derived.Test.YtgjncbnjgmfjeaaIdsPlain
import Derived.Test.YtgjncbnjgmfjeaaIdsRef
namespace Go.Proofs.Ytgjncbnjgmfjeaa.IdsMore
open Go.RowKit Go.Proofs.Ytgjncbnjgmfjeaa.PA Go.Proofs.Ytgjncbnjgmfjeaa.IdsPlain Go.Proofs.Ytgjncbnjgmfjeaa.IdsRef Go.Proofs.YtgjncbnjgmfjeaaW.PrintWords Go.Proofs.YtgjncbnjgmfjeaaW.PrintLast
set_option linter.unusedVariables false
theorem keep_from (a b : List Int) (fl : Bool) (ha : a.length ≤ 1000000) (hb : b.length ≤ 1000000) : ∀ (d i k : Nat) (out : List Int), i + d = a.length → b.length + d + 1 < k → out.length ≤ i → dowserref04_Keep.l0 k b fl out a (a.length : Int) (i : Int) = some (out ++ (a.drop i).filter (fun x => decide (x ∈ b) == fl))
  | 0, i, k, out, h, hk, ho => by
    obtain ⟨k, rfl⟩ : ∃ m, k = m + 1 := ⟨k - 1, by omega⟩
    simp only [dowserref04_Keep.l0]
    rw [if_neg (by omega), List.drop_of_length_le (by omega)]
    simp
  | d + 1, i, k, out, h, hk, ho => by
    obtain ⟨k, rfl⟩ : ∃ m, k = m + 1 := ⟨k - 1, by omega⟩
    simp only [dowserref04_Keep.l0]
    rw [if_pos (by omega), if_pos (by omega), if_pos (by omega), rd_get a i (by omega), has_f k b _ hb (by omega), Option.bind_some, next i (by omega), List.drop_eq_getElem_cons (show i < a.length by omega), List.filter_cons]
    by_cases c : (decide (a[i]'(by omega) ∈ b) == fl) = true
    · rw [if_pos c, if_pos c, if_pos (by omega), keep_from a b fl ha hb d (i + 1) k _ (by omega) (by omega) (by simp; omega), List.append_assoc, List.singleton_append]
    · rw [if_neg c, if_neg c, keep_from a b fl ha hb d (i + 1) k _ (by omega) (by omega) (by omega)]
theorem keep_f (k : Nat) (a b : List Int) (fl : Bool) (ha : a.length ≤ 1000000) (hb : b.length ≤ 1000000) (hk : a.length + b.length + 1 < k) : dowserref04_Keep.f k a b fl = some (a.filter (fun x => decide (x ∈ b) == fl)) := by
  have := keep_from a b fl ha hb a.length 0 k [] (by omega) (by omega) (by simp)
  rw [List.drop_zero, Int.ofNat_zero, List.nil_append] at this
  exact this
theorem runion_f (k : Nat) (a b : List Int) (h : a.length + b.length ≤ 100000) (hk : 2 * (a.length + b.length) + 1 < k) : dowserref04_Union.f k a b = some (setOf (a ++ b)) := by
  unfold dowserref04_Union.f
  rw [Option.bind_some, if_pos (by simp; omega), Option.bind_some, List.nil_append, if_pos (by omega), of_f k _ (by rw [List.length_append]; omega) (by rw [List.length_append]; omega), Option.bind_some]
/-! ### which is the greater -/
def cmpL : List Int → List Int → Int
  | [], [] => 0
  | [], _ :: _ => -1
  | _ :: _, [] => 1
  | x :: a, y :: b => if x < y then -1 else if x > y then 1 else cmpL a b
theorem cmpL_range : ∀ a b, cmpL a b = -1 ∨ cmpL a b = 0 ∨ cmpL a b = 1
  | [], [] => by simp [cmpL]
  | [], _ :: _ => by simp [cmpL]
  | _ :: _, [] => by simp [cmpL]
  | x :: a, y :: b => by
    unfold cmpL
    split
    · omega
    · split
      · omega
      · exact cmpL_range a b
theorem cmpL_neg : ∀ a b, cmpL b a = -cmpL a b
  | [], [] => rfl
  | [], _ :: _ => rfl
  | _ :: _, [] => rfl
  | x :: a, y :: b => by
    unfold cmpL
    by_cases c1 : x < y
    · rw [if_neg (by omega), if_pos (by omega), if_pos c1]; rfl
    · by_cases c2 : y < x
      · rw [if_pos c2, if_neg c1, if_pos (by omega)]
      · rw [if_neg c2, if_neg (by omega), if_neg c1, if_neg (by omega)]
        exact cmpL_neg a b
theorem cmpL_drop (a b : List Int) (i : Nat) (ha : i < a.length) (hb : i < b.length) : cmpL (a.drop i) (b.drop i) = if a[i] < b[i] then -1 else if a[i] > b[i] then 1 else cmpL (a.drop (i + 1)) (b.drop (i + 1)) := by
  rw [List.drop_eq_getElem_cons ha, List.drop_eq_getElem_cons hb]
  rfl
theorem rcmp_from (a b : List Int) (ha : a.length ≤ 1000000) (hb : b.length ≤ 1000000) : ∀ (d i k : Nat), i + d = a.length → i ≤ b.length → 2 * d + 2 < k → dowserref04_Compare.l0 k a b (i : Int) = some (cmpL (a.drop i) (b.drop i))
  | 0, i, k, h, hi, hk => by
    obtain ⟨k, rfl⟩ : ∃ m, k = m + 2 := ⟨k - 2, by omega⟩
    simp only [dowserref04_Compare.l0]
    rw [if_neg (by omega)]
    simp only [dowserref04_Compare.j1]
    rw [if_neg (by decide), List.drop_of_length_le (show a.length ≤ i by omega)]
    by_cases c : a.length < b.length
    · rw [if_pos (by omega), List.drop_eq_getElem_cons (show i < b.length by omega)]; rfl
    · rw [if_neg (by omega), if_neg (by omega), List.drop_of_length_le (show b.length ≤ i by omega)]; rfl
  | d + 1, i, k, h, hi, hk => by
    obtain ⟨k, rfl⟩ : ∃ m, k = m + 2 := ⟨k - 2, by omega⟩
    simp only [dowserref04_Compare.l0]
    rw [if_pos (by omega)]
    simp only [dowserref04_Compare.j1]
    by_cases c : i < b.length
    · rw [if_pos (decide_eq_true (by omega)), if_pos (by omega), if_pos (by omega), if_pos (by omega), rd_get a i (by omega), rd_get b i c, next i (by omega), cmpL_drop a b i (by omega) c]
      by_cases c1 : a[i]'(by omega) < b[i]
      · rw [if_pos c1, if_pos c1]
      · rw [if_neg c1, if_neg c1]
        by_cases c2 : a[i]'(by omega) > b[i]
        · rw [if_pos c2, if_pos c2]
        · rw [if_neg c2, if_neg c2]
          exact rcmp_from a b ha hb d (i + 1) k (by omega) (by omega) (by omega)
    · rw [if_neg (by simp; omega), if_neg (by omega), if_pos (by omega), List.drop_of_length_le (show b.length ≤ i by omega), List.drop_eq_getElem_cons (show i < a.length by omega)]; rfl
theorem rcmp_f (k : Nat) (a b : List Int) (ha : a.length ≤ 1000000) (hb : b.length ≤ 1000000) (hk : 2 * a.length + 2 < k) : dowserref04_Compare.f k a b = some (cmpL a b) := by
  have := rcmp_from a b ha hb a.length 0 k (by omega) (by omega) hk
  rw [List.drop_zero, List.drop_zero, Int.ofNat_zero] at this
  exact this
theorem ccmp (x y : Int) : cmp_Compare_int.f x y = some (if x < y then -1 else if x > y then 1 else 0) := by
  unfold cmp_Compare_int.f cmp_isNaN_int.f
  simp only [Option.bind_some, bne_self_eq_false, Bool.false_eq_true, if_false]
  split
  · rfl
  · split <;> rfl
theorem icmp_from (a b : List Int) (ha : a.length ≤ 1000000) (hb : b.length ≤ 1000000) : ∀ (d i k : Nat), i + d = a.length → i ≤ b.length → d < k → slices_Compare_int_int.l0 k a b a (a.length : Int) (i : Int) = some (cmpL (a.drop i) (b.drop i))
  | 0, i, k, h, hi, hk => by
    obtain ⟨k, rfl⟩ : ∃ m, k = m + 1 := ⟨k - 1, by omega⟩
    simp only [slices_Compare_int_int.l0]
    rw [if_neg (by omega), List.drop_of_length_le (show a.length ≤ i by omega)]
    by_cases c : a.length < b.length
    · rw [if_pos (by omega), List.drop_eq_getElem_cons (show i < b.length by omega)]; rfl
    · rw [if_neg (by omega), List.drop_of_length_le (show b.length ≤ i by omega)]; rfl
  | d + 1, i, k, h, hi, hk => by
    obtain ⟨k, rfl⟩ : ∃ m, k = m + 1 := ⟨k - 1, by omega⟩
    simp only [slices_Compare_int_int.l0]
    rw [if_pos (by omega), if_pos (by omega), if_pos (by omega)]
    by_cases c : i < b.length
    · rw [if_neg (by omega), if_pos (by omega), rd_get a i (by omega), rd_get b i c, ccmp, Option.bind_some, next i (by omega), cmpL_drop a b i (by omega) c]
      by_cases c1 : a[i]'(by omega) < b[i]
      · rw [if_pos c1, if_pos c1, if_neg (by decide)]
      · rw [if_neg c1, if_neg c1]
        by_cases c2 : a[i]'(by omega) > b[i]
        · rw [if_pos c2, if_pos c2, if_neg (by decide)]
        · rw [if_neg c2, if_neg c2, if_pos rfl]
          exact icmp_from a b ha hb d (i + 1) k (by omega) (by omega) (by omega)
    · rw [if_pos (by omega), List.drop_of_length_le (show b.length ≤ i by omega), List.drop_eq_getElem_cons (show i < a.length by omega)]; rfl
theorem icmp_f (k : Nat) (a b : List Int) (ha : a.length ≤ 1000000) (hb : b.length ≤ 1000000) (hk : a.length < k) : ids_Compare.f k a b = some (cmpL a b) := by
  have := icmp_from a b ha hb a.length 0 k (by omega) (by omega) hk
  rw [List.drop_zero, List.drop_zero, Int.ofNat_zero] at this
  unfold ids_Compare.f slices_Compare_int_int.f
  rw [this]; rfl
/-! ### do they meet -/
theorem meets_spec : ∀ (n : Nat) (a b : List Int), a.length + b.length ≤ n → Ris a → Ris b → walkN meetsStep n a b false = decide (∃ x, x ∈ a ∧ x ∈ b)
  | 0, a, b, h, _, _ => by
    have ha : a = [] := List.eq_nil_of_length_eq_zero (by omega)
    subst ha
    simp [walkN]
  | n + 1, [], [], h, _, _ => by simp [walkN]
  | n + 1, [], y :: b, h, ha, hb => by
    replace hb := List.pairwise_cons.mp hb
    rw [List.length_cons] at h
    have := meets_spec n [] b (by simp at h ⊢; omega) ha hb.2
    simp only [walkN]
    rw [show meetsStep false y false true = (false, true) from rfl, if_pos rfl, this]; simp
  | n + 1, x :: a, [], h, ha, hb => by
    replace ha := List.pairwise_cons.mp ha
    rw [List.length_cons] at h
    have := meets_spec n a [] (by simp at h ⊢; omega) ha.2 hb
    simp only [walkN]
    rw [show meetsStep false x true false = (false, true) from rfl, if_pos rfl, this]; simp
  | n + 1, x :: a, y :: b, h, ha, hb => by
    have ha' := ha
    have hb' := hb
    replace ha := List.pairwise_cons.mp ha
    replace hb := List.pairwise_cons.mp hb
    rw [List.length_cons, List.length_cons] at h
    by_cases c1 : x < y
    · have := meets_spec n a (y :: b) (by rw [List.length_cons]; omega) ha.2 hb'
      simp only [walkN]
      rw [if_pos c1, show meetsStep false x true false = (false, true) from rfl, if_pos rfl, this, decide_eq_decide]
      constructor
      · rintro ⟨z, h1, h2⟩; exact ⟨z, List.mem_cons_of_mem _ h1, h2⟩
      · rintro ⟨z, h1, h2⟩
        rw [List.mem_cons] at h1
        rcases h1 with e | e
        · subst e
          rw [List.mem_cons] at h2
          rcases h2 with e | e
          · omega
          · have := hb.1 z e; omega
        · exact ⟨z, e, h2⟩
    · by_cases c2 : y < x
      · have := meets_spec n (x :: a) b (by rw [List.length_cons]; omega) ha' hb.2
        simp only [walkN]
        rw [if_neg c1, if_pos c2, show meetsStep false y false true = (false, true) from rfl, if_pos rfl, this, decide_eq_decide]
        constructor
        · rintro ⟨z, h1, h2⟩; exact ⟨z, h1, List.mem_cons_of_mem _ h2⟩
        · rintro ⟨z, h1, h2⟩
          rw [List.mem_cons] at h2
          rcases h2 with e | e
          · subst e
            rw [List.mem_cons] at h1
            rcases h1 with e | e
            · omega
            · have := ha.1 z e; omega
          · exact ⟨z, h1, e⟩
      · have hxy : x = y := by omega
        subst hxy
        simp only [walkN]
        rw [if_neg c1, if_neg c1, show meetsStep false x true true = (true, false) from rfl, if_neg (by decide)]
        symm
        exact decide_eq_true ⟨x, by simp, by simp⟩
theorem meets_f {a b : List Int} (ha : Ris a) (hb : Ris b) (hm : a.length + b.length ≤ 1000000) : ids_Meets.f a b = some (decide (∃ x, x ∈ a ∧ x ∈ b)) := by
  unfold ids_Meets.f; rw [if_pos hm, meets_spec _ a b (Nat.le_refl _) ha hb]
end Go.Proofs.Ytgjncbnjgmfjeaa.IdsMore
