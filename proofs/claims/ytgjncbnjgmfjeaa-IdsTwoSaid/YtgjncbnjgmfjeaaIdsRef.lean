/- The document's sets, one by one: what its functions compute; the program's set of a list; what is told of a list. Conditions: lists of at most a million numbers. -/
import Derived.Test.YtgjncbnjgmfjeaaPAx13
import Derived.Test.YtgjncbnjgmfjeaaPAx14
import Derived.Test.YtgjncbnjgmfjeaaPAx15
import Derived.Test.YtgjncbnjgmfjeaaPAx16
import Derived.Test.YtgjncbnjgmfjeaaPAx17
import Derived.Test.YtgjncbnjgmfjeaaPAx18
import Derived.Test.YtgjncbnjgmfjeaaPAx2
import Derived.Test.YtgjncbnjgmfjeaaPAx21
import Derived.Test.YtgjncbnjgmfjeaaPAx23
import Derived.Test.YtgjncbnjgmfjeaaPAx24
import Derived.Test.YtgjncbnjgmfjeaaPAx25
import Derived.Test.YtgjncbnjgmfjeaaPAx3
import Derived.Test.YtgjncbnjgmfjeaaIdsPlain
namespace Go.Proofs.Ytgjncbnjgmfjeaa.IdsRef
open Go.RowKit Go.Proofs.Ytgjncbnjgmfjeaa.PA Go.Proofs.Ytgjncbnjgmfjeaa.IdsPlain Go.Proofs.YtgjncbnjgmfjeaaW.PrintWords Go.Proofs.YtgjncbnjgmfjeaaW.PrintLast
set_option linter.unusedVariables false
theorem next (i : Nat) (h : i < 4611686018427387904) : wrap64 ((i : Int) + 1) = ((i + 1 : Nat) : Int) := by rw [IdsPlain.wrap_small (by omega) (by omega)]; omega
/-! ### Has -/
theorem has_from (l : List Int) (x : Int) (hl : l.length ≤ 1000000) : ∀ (d i k : Nat), i + d = l.length → d < k → dowserref04_Has.l0 k x l (l.length : Int) (i : Int) = some (decide (x ∈ l.drop i))
  | 0, i, k, h, hk => by
    obtain ⟨k, rfl⟩ : ∃ m, k = m + 1 := ⟨k - 1, by omega⟩
    simp only [dowserref04_Has.l0]
    rw [if_neg (by omega), List.drop_of_length_le (by omega)]
    simp
  | d + 1, i, k, h, hk => by
    obtain ⟨k, rfl⟩ : ∃ m, k = m + 1 := ⟨k - 1, by omega⟩
    simp only [dowserref04_Has.l0]
    rw [if_pos (by omega), if_pos (by omega), if_pos (by omega), rd_get l i (by omega), next i (by omega), has_from l x hl d (i + 1) k (by omega) (by omega), List.drop_eq_getElem_cons (show i < l.length by omega)]
    by_cases c : x = l[i]'(by omega)
    · rw [if_pos c]; exact congrArg some (decide_eq_true (by rw [List.mem_cons]; exact .inl c)).symm
    · rw [if_neg c]; congr 1; rw [decide_eq_decide, List.mem_cons]; exact ⟨.inr, fun h => h.resolve_left c⟩
theorem has_f (k : Nat) (l : List Int) (x : Int) (hl : l.length ≤ 1000000) (hk : l.length < k) : dowserref04_Has.f k l x = some (decide (x ∈ l)) := by
  have := has_from l x hl l.length 0 k (by omega) hk
  rw [List.drop_zero, Int.ofNat_zero] at this
  exact this
/-! ### Add -/
/-- a rising list with a number more -/
def ins (x : Int) : List Int → List Int
  | [] => [x]
  | y :: l => if x < y then x :: y :: l else y :: ins x l
theorem ins_mem (x z : Int) : ∀ l, z ∈ ins x l ↔ z = x ∨ z ∈ l
  | [] => by simp [ins]
  | y :: l => by
    unfold ins
    split
    · simp [List.mem_cons]
    · rw [List.mem_cons, ins_mem x z l, List.mem_cons]
      constructor
      · rintro (h | h | h)
        · exact .inr (.inl h)
        · exact .inl h
        · exact .inr (.inr h)
      · rintro (h | h | h)
        · exact .inr (.inl h)
        · exact .inl h
        · exact .inr (.inr h)
theorem ins_ris (x : Int) : ∀ l, Ris l → ¬ x ∈ l → Ris (ins x l)
  | [], _, _ => by simp [ins]
  | y :: l, h, hx => by
    have h' := List.pairwise_cons.mp h
    rw [List.mem_cons] at hx
    unfold ins
    split
    · rename_i c
      refine List.pairwise_cons.mpr ⟨fun z hz => ?_, h⟩
      rw [List.mem_cons] at hz
      rcases hz with e | e
      · omega
      · have := h'.1 z e; omega
    · rename_i c
      refine List.pairwise_cons.mpr ⟨fun z hz => ?_, ins_ris x l h'.2 (fun hm => hx (.inr hm))⟩
      rcases (ins_mem x z l).mp hz with e | e
      · have : ¬ x = y := fun hh => hx (.inl hh)
        omega
      · exact h'.1 z e
theorem ins_len (x : Int) : ∀ l : List Int, (ins x l).length = l.length + 1
  | [] => rfl
  | y :: l => by
    unfold ins
    split
    · simp
    · rw [List.length_cons, ins_len x l, List.length_cons]
theorem add_done (l : List Int) (x : Int) (hl : l.length ≤ 1000000) : ∀ (d i k : Nat) (out : List Int), i + d = l.length → d < k → out.length ≤ i + 1 → dowserref04_Add.l0 k x out true l (l.length : Int) (i : Int) = some (out ++ l.drop i)
  | 0, i, k, out, h, hk, ho => by
    obtain ⟨k, rfl⟩ : ∃ m, k = m + 1 := ⟨k - 1, by omega⟩
    simp only [dowserref04_Add.l0]
    rw [if_neg (by omega), List.drop_of_length_le (by omega)]
    simp
  | d + 1, i, k, out, h, hk, ho => by
    obtain ⟨k, rfl⟩ : ∃ m, k = m + 1 := ⟨k - 1, by omega⟩
    simp only [dowserref04_Add.l0]
    rw [if_pos (by omega), if_pos (by omega), if_pos (by omega), rd_get l i (by omega), next i (by omega)]
    rw [if_pos trivial, if_pos (by omega), add_done l x hl d (i + 1) k _ (by omega) (by omega) (by simp; omega), List.drop_eq_getElem_cons (show i < l.length by omega)]
    simp
theorem add_from (l : List Int) (x : Int) (hl : l.length ≤ 1000000) : ∀ (d i k : Nat) (out : List Int), i + d = l.length → d < k → out.length ≤ i → dowserref04_Add.l0 k x out false l (l.length : Int) (i : Int) = some (out ++ ins x (l.drop i))
  | 0, i, k, out, h, hk, ho => by
    obtain ⟨k, rfl⟩ : ∃ m, k = m + 1 := ⟨k - 1, by omega⟩
    simp only [dowserref04_Add.l0]
    rw [if_neg (by omega), List.drop_of_length_le (by omega), if_neg (by decide), if_pos (by omega)]
    simp [ins]
  | d + 1, i, k, out, h, hk, ho => by
    obtain ⟨k, rfl⟩ : ∃ m, k = m + 1 := ⟨k - 1, by omega⟩
    simp only [dowserref04_Add.l0]
    rw [if_pos (by omega), if_pos (by omega), if_pos (by omega), rd_get l i (by omega), next i (by omega), if_neg (by decide), List.drop_eq_getElem_cons (show i < l.length by omega)]
    unfold ins
    by_cases c : x < l[i]'(by omega)
    · rw [if_pos c, if_pos c, if_pos (by omega), Option.bind_some, if_pos (by simp; omega), add_done l x hl d (i + 1) k _ (by omega) (by omega) (by simp; omega)]
      simp
    · rw [if_neg c, if_neg c, if_pos (by omega), add_from l x hl d (i + 1) k _ (by omega) (by omega) (by simp; omega)]
      simp
def add (s : List Int) (x : Int) : List Int := if x ∈ s then s else ins x s
theorem add_f (k : Nat) (s : List Int) (x : Int) (hl : s.length ≤ 1000000) (hk : s.length < k) : dowserref04_Add.f k s x = some (add s x) := by
  unfold dowserref04_Add.f add
  rw [has_f k s x hl hk, Option.bind_some]
  by_cases c : x ∈ s
  · rw [if_pos (decide_eq_true c), if_pos c]
  · rw [if_neg (by simpa using c), if_neg c]
    have := add_from s x hl s.length 0 k [] (by omega) hk (by simp)
    rw [List.drop_zero, Int.ofNat_zero, List.nil_append] at this
    exact this
/-! ### Of -/
def setOf (l : List Int) : List Int := l.foldl add []
theorem of_from (l : List Int) (hl : l.length ≤ 100000) : ∀ (d i k : Nat) (s : List Int), i + d = l.length → s.length ≤ i → l.length + d + 1 < k → dowserref04_Of.l0 k s l (l.length : Int) (i : Int) = some ((l.drop i).foldl add s)
  | 0, i, k, s, h, hs, hk => by
    obtain ⟨k, rfl⟩ : ∃ m, k = m + 1 := ⟨k - 1, by omega⟩
    simp only [dowserref04_Of.l0]
    rw [if_neg (by omega), List.drop_of_length_le (by omega)]
    rfl
  | d + 1, i, k, s, h, hs, hk => by
    obtain ⟨k, rfl⟩ : ∃ m, k = m + 1 := ⟨k - 1, by omega⟩
    simp only [dowserref04_Of.l0]
    have hlen : (add s (l[i]'(by omega))).length ≤ i + 1 := by
      unfold add
      split
      · omega
      · rw [ins_len]; omega
    rw [if_pos (by omega), if_pos (by omega), if_pos (by omega), rd_get l i (by omega), next i (by omega), add_f k s _ (by omega) (by omega), Option.bind_some, of_from l hl d (i + 1) k _ (by omega) hlen (by omega), List.drop_eq_getElem_cons (show i < l.length by omega), List.foldl_cons]
theorem of_f (k : Nat) (l : List Int) (hl : l.length ≤ 100000) (hk : 2 * l.length + 1 < k) : dowserref04_Of.f k l = some (setOf l) := by
  have := of_from l hl l.length 0 k [] (by omega) (by simp) (by omega)
  rw [List.drop_zero, Int.ofNat_zero] at this
  exact this
theorem fold_spec : ∀ (l s : List Int), Ris s → Ris (l.foldl add s) ∧ (∀ x, x ∈ l.foldl add s ↔ x ∈ s ∨ x ∈ l) ∧ (l.foldl add s).length ≤ s.length + l.length
  | [], s, h => by simp [h]
  | y :: l, s, h => by
    have hr : Ris (add s y) := by
      unfold add
      split
      · exact h
      · rename_i c; exact ins_ris y s h c
    have hm : ∀ x, x ∈ add s y ↔ x = y ∨ x ∈ s := by
      intro x
      unfold add
      split
      · rename_i c
        constructor
        · exact .inr
        · rintro (e | e)
          · rw [e]; exact c
          · exact e
      · exact ins_mem y x s
    have hlen : (add s y).length ≤ s.length + 1 := by
      unfold add
      split
      · omega
      · rw [ins_len]; omega
    obtain ⟨h1, h2, h3⟩ := fold_spec l (add s y) hr
    rw [List.foldl_cons]
    refine ⟨h1, fun x => ?_, by rw [List.length_cons]; omega⟩
    rw [h2, hm, List.mem_cons]
    constructor
    · rintro ((e | e) | e)
      · exact .inr (.inl e)
      · exact .inl e
      · exact .inr (.inr e)
    · rintro (e | e | e)
      · exact .inl (.inr e)
      · exact .inl (.inl e)
      · exact .inr e
theorem set_ris (l : List Int) : Ris (setOf l) := (fold_spec l [] List.Pairwise.nil).1
theorem set_mem (l : List Int) (x : Int) : x ∈ setOf l ↔ x ∈ l := by
  have := (fold_spec l [] List.Pairwise.nil).2.1 x
  simpa [setOf] using this
theorem set_len (l : List Int) : (setOf l).length ≤ l.length := by
  have := (fold_spec l [] List.Pairwise.nil).2.2
  simpa [setOf] using this
/-! ### Same -/
theorem same_from (a b : List Int) (he : a.length = b.length) (hl : a.length ≤ 1000000) : ∀ (d i k : Nat), i + d = a.length → d < k → dowserref04_Same.l0 k a b (a.length : Int) (i : Int) = some (decide (a.drop i = b.drop i))
  | 0, i, k, h, hk => by
    obtain ⟨k, rfl⟩ : ∃ m, k = m + 1 := ⟨k - 1, by omega⟩
    simp only [dowserref04_Same.l0]
    rw [if_neg (by omega), List.drop_of_length_le (show a.length ≤ i by omega), List.drop_of_length_le (show b.length ≤ i by omega)]
    simp
  | d + 1, i, k, h, hk => by
    obtain ⟨k, rfl⟩ : ∃ m, k = m + 1 := ⟨k - 1, by omega⟩
    simp only [dowserref04_Same.l0]
    rw [if_pos (by omega), if_pos (by omega), if_pos (by omega), if_pos (by omega), rd_get a i (by omega), rd_get b i (by omega), next i (by omega), same_from a b he hl d (i + 1) k (by omega) (by omega), List.drop_eq_getElem_cons (show i < a.length by omega), List.drop_eq_getElem_cons (show i < b.length by omega)]
    by_cases c : a[i]'(by omega) = b[i]'(by omega)
    · rw [if_pos c]; congr 1; rw [decide_eq_decide, List.cons.injEq]; exact ⟨fun h => ⟨c, h⟩, fun h => h.2⟩
    · rw [if_neg c]; congr 1; symm; rw [decide_eq_false_iff_not, List.cons.injEq]; exact fun h => c h.1
theorem same_f (k : Nat) (a b : List Int) (hl : a.length ≤ 1000000) (hk : a.length < k) : dowserref04_Same.f k a b = some (decide (a = b)) := by
  unfold dowserref04_Same.f
  by_cases c : a.length = b.length
  · rw [if_pos (by omega)]
    have := same_from a b c hl a.length 0 k (by omega) hk
    rw [List.drop_zero, List.drop_zero, Int.ofNat_zero] at this
    exact this
  · rw [if_neg (by omega)]
    congr 1; symm; rw [decide_eq_false_iff_not]
    intro e; exact c (by rw [e])
theorem equal_from (a b : List Int) (he : a.length = b.length) (hl : a.length ≤ 1000000) : ∀ (d i k : Nat), i + d = a.length → d < k → slices_Equal_int_int.l0 k a b (a.length : Int) (i : Int) = some (decide (a.drop i = b.drop i))
  | 0, i, k, h, hk => by
    obtain ⟨k, rfl⟩ : ∃ m, k = m + 1 := ⟨k - 1, by omega⟩
    simp only [slices_Equal_int_int.l0]
    rw [if_neg (by omega), List.drop_of_length_le (show a.length ≤ i by omega), List.drop_of_length_le (show b.length ≤ i by omega)]
    simp
  | d + 1, i, k, h, hk => by
    obtain ⟨k, rfl⟩ : ∃ m, k = m + 1 := ⟨k - 1, by omega⟩
    simp only [slices_Equal_int_int.l0]
    rw [if_pos (by omega), if_pos (by omega), if_pos (by omega), if_pos (by omega), rd_get a i (by omega), rd_get b i (by omega), next i (by omega), equal_from a b he hl d (i + 1) k (by omega) (by omega), List.drop_eq_getElem_cons (show i < a.length by omega), List.drop_eq_getElem_cons (show i < b.length by omega)]
    by_cases c : a[i]'(by omega) = b[i]'(by omega)
    · rw [if_pos c]; congr 1; rw [decide_eq_decide, List.cons.injEq]; exact ⟨fun h => ⟨c, h⟩, fun h => h.2⟩
    · rw [if_neg c]; congr 1; symm; rw [decide_eq_false_iff_not, List.cons.injEq]; exact fun h => c h.1
theorem isame_f (k : Nat) (a b : List Int) (hl : a.length ≤ 1000000) (hk : a.length < k) : ids_Same.f k a b = some (decide (a = b)) := by
  unfold ids_Same.f slices_Equal_int_int.f
  by_cases c : a.length = b.length
  · rw [if_pos (by omega)]
    have := equal_from a b c hl a.length 0 k (by omega) hk
    rw [List.drop_zero, List.drop_zero, Int.ofNat_zero] at this
    rw [this]; rfl
  · rw [if_neg (by omega), Option.bind_some]
    congr 1; symm; rw [decide_eq_false_iff_not]
    intro e; exact c (by rw [e])
/-! ### Is -/
instance (l : List Int) : Decidable (Ris l) := inferInstanceAs (Decidable (List.Pairwise _ _))
theorem is_from (l : List Int) (hl : l.length ≤ 1000000) : ∀ (d i k : Nat), i + d = l.length → d < k → 1 ≤ i → ∃ b, ids_Is.l0 k l (i : Int) = some b ∧ (b = true ↔ ∀ j (h : j + 1 < l.length), i ≤ j + 1 → l[j] < l[j + 1])
  | 0, i, k, h, hk, hi => by
    obtain ⟨k, rfl⟩ : ∃ m, k = m + 1 := ⟨k - 1, by omega⟩
    simp only [ids_Is.l0]
    rw [if_neg (by omega)]
    exact ⟨true, rfl, by simp; intro j hj hij; omega⟩
  | d + 1, i, k, h, hk, hi => by
    obtain ⟨k, rfl⟩ : ∃ m, k = m + 1 := ⟨k - 1, by omega⟩
    obtain ⟨p, rfl⟩ : ∃ p, i = p + 1 := ⟨i - 1, by omega⟩
    have hp : wrap64 (((p + 1 : Nat) : Int) - 1) = (p : Int) := by rw [IdsPlain.wrap_small (by omega) (by omega)]; omega
    simp only [ids_Is.l0]
    rw [if_pos (by omega), hp, if_pos (by omega), if_pos (by omega), if_pos (by omega), rd_get l p (by omega), rd_get l (p + 1) (by omega), next (p + 1) (by omega)]
    by_cases c : l[p]'(by omega) ≥ l[p + 1]'(by omega)
    · rw [if_pos c]
      exact ⟨false, rfl, ⟨fun h => (by cases h), fun h => absurd (h p (by omega) (Nat.le_refl _)) (by omega)⟩⟩
    · rw [if_neg c]
      obtain ⟨b, h1, h2⟩ := is_from l hl d (p + 1 + 1) k (by omega) (by omega) (by omega)
      refine ⟨b, h1, h2.trans ⟨fun hh j hj hij => ?_, fun hh j hj hij => hh j hj (by omega)⟩⟩
      by_cases e : j = p
      · subst e; omega
      · exact hh j hj (by omega)
theorem ris_iff (l : List Int) : Ris l ↔ ∀ j (h : j + 1 < l.length), l[j] < l[j + 1] := by
  constructor
  · intro h j hj
    exact List.pairwise_iff_getElem.mp h j (j + 1) (by omega) hj (by omega)
  · intro h
    rw [Ris, List.pairwise_iff_getElem]
    intro i j hi hj hij
    have : ∀ d, (hd : i + d + 1 < l.length) → l[i] < l[i + d + 1] := by
      intro d
      induction d with
      | zero => intro hd; exact h i hd
      | succ d ih =>
        intro hd
        have h1 := ih (by omega)
        have h2 := h (i + d + 1) (by omega)
        have e : i + (d + 1) + 1 = i + d + 1 + 1 := by omega
        simp only [e]
        omega
    have := this (j - i - 1) (by omega)
    have e : i + (j - i - 1) + 1 = j := by omega
    simpa only [e] using this
theorem is_f (k : Nat) (l : List Int) (hl : l.length ≤ 1000000) (hk : l.length < k) : ids_Is.f k l = some (decide (Ris l)) := by
  unfold ids_Is.f
  by_cases c : l.length = 0
  · obtain ⟨k, rfl⟩ : ∃ m, k = m + 1 := ⟨k - 1, by omega⟩
    have : l = [] := List.eq_nil_of_length_eq_zero c
    subst this
    simp only [ids_Is.l0]
    rw [if_neg (by simp)]
    rfl
  · obtain ⟨b, h1, h2⟩ := is_from l hl (l.length - 1) 1 k (by omega) (by omega) (by omega)
    have h1' : ids_Is.l0 k l 1 = some b := h1
    rw [h1']
    congr 1
    rw [Bool.eq_iff_iff, h2, decide_eq_true_iff, ris_iff]
    exact ⟨fun h j hj => h j hj (by omega), fun h j hj _ => h j hj⟩
/-! ### the program's set of a list -/
theorem compactUp (d : Array Int) (hs : ∀ i j, i ≤ j → j < d.size → d[i]! ≤ d[j]!) : ∀ m, m ≤ d.size → Ris (Lib.compactUpTo d m) ∧ (∀ x, x ∈ Lib.compactUpTo d m ↔ ∃ j, j < m ∧ d[j]! = x)
  | 0, _ => by
    have : Lib.compactUpTo d 0 = [] := rfl
    rw [this]
    exact ⟨List.Pairwise.nil, fun x => ⟨fun h => by simp at h, fun ⟨j, hj, _⟩ => by omega⟩⟩
  | m + 1, hm => by
    obtain ⟨h1, h2⟩ := compactUp d hs m (by omega)
    rw [Lib.compactUpTo_succ]
    by_cases c : m = 0 ∨ d[m]! ≠ d[m - 1]!
    · have hk : Lib.keeps d m = true := decide_eq_true c
      rw [hk, if_pos rfl]
      constructor
      · rw [Ris, List.pairwise_append]
        refine ⟨h1, by simp, fun x hx y hy => ?_⟩
        rw [List.mem_singleton] at hy
        subst hy
        obtain ⟨j, hj, rfl⟩ := (h2 x).mp hx
        rcases c with c | c
        · omega
        · have a1 := hs j (m - 1) (by omega) (by omega)
          have a2 := hs (m - 1) m (by omega) (by omega)
          omega
      · intro x
        rw [List.mem_append, List.mem_singleton, h2]
        constructor
        · rintro (⟨j, hj, e⟩ | e)
          · exact ⟨j, by omega, e⟩
          · exact ⟨m, by omega, e.symm⟩
        · rintro ⟨j, hj, e⟩
          by_cases ej : j = m
          · subst ej; exact .inr e.symm
          · exact .inl ⟨j, by omega, e⟩
    · have hk : Lib.keeps d m = false := decide_eq_false c
      have c1 : ¬ m = 0 := fun h => c (.inl h)
      have c2 : d[m]! = d[m - 1]! := Decidable.byContradiction fun h => c (.inr h)
      rw [hk, if_neg (by decide), List.append_nil]
      refine ⟨h1, fun x => ?_⟩
      rw [h2]
      constructor
      · rintro ⟨j, hj, e⟩; exact ⟨j, by omega, e⟩
      · rintro ⟨j, hj, e⟩
        by_cases ej : j = m
        · subst ej; exact ⟨j - 1, by omega, by rw [← c2]; exact e⟩
        · exact ⟨j, by omega, e⟩
theorem ofL_spec (l : List Int) : Ris (ofL l) ∧ ∀ x, x ∈ ofL l ↔ x ∈ l := by
  unfold ofL Lib.compact
  obtain ⟨s, hs⟩ : ∃ s, s = l.mergeSort fun x y => decide (x ≤ y) := ⟨_, rfl⟩
  have hp : s.Perm l := by rw [hs]; exact List.mergeSort_perm l _
  have ho : s.Pairwise (fun x y => x ≤ y) := by
    have := List.pairwise_mergeSort (le := fun x y : Int => decide (x ≤ y)) (fun a b c h1 h2 => by simp at *; omega) (fun a b => by simp; omega) l
    rw [← hs] at this
    exact this.imp (fun h => by simpa using h)
  rw [← hs]
  have hsz : s.toArray.size = s.length := by simp
  have hget : ∀ i, i < s.length → s.toArray[i]! = s[i]! := fun i hi => by simp
  obtain ⟨h1, h2⟩ := compactUp s.toArray (fun i j hij hj => by
    rw [hsz] at hj
    rw [getElem!_pos s.toArray i (by rw [hsz]; omega), getElem!_pos s.toArray j (by rw [hsz]; omega)]
    simp only [List.getElem_toArray]
    by_cases e : i = j
    · subst e; omega
    · exact List.pairwise_iff_getElem.mp ho i j (by omega) hj (by omega)) s.length (by rw [hsz]; exact Nat.le_refl _)
  refine ⟨h1, fun x => ?_⟩
  rw [h2, ← hp.mem_iff, List.mem_iff_getElem]
  constructor
  · rintro ⟨j, hj, e⟩
    rw [getElem!_pos s.toArray j (by rw [hsz]; omega)] at e
    exact ⟨j, hj, by simpa using e⟩
  · rintro ⟨j, hj, e⟩
    exact ⟨j, hj, by rw [getElem!_pos s.toArray j (by rw [hsz]; omega)]; simpa using e⟩
theorem ofL_set (l : List Int) : ofL l = setOf l :=
  ris_ext _ _ (ofL_spec l).1 (set_ris l) (fun x => by rw [(ofL_spec l).2, set_mem])
theorem iof_f (l : List Int) (hl : l.length ≤ 1000000) : ids_Of.f l = some (setOf l) := by
  unfold ids_Of.f; rw [if_pos (by omega), ofL_set]
theorem set_of_ris {l : List Int} (h : Ris l) : setOf l = l := ris_ext _ _ (set_ris l) h (set_mem l)
/-! ### the program's search -/
theorem search_from (s : List Int) (x : Int) (hs : Ris s) (hl : s.length ≤ 1000000) : ∀ (n i j k : Nat), j - i ≤ n → i ≤ j → j ≤ s.length → n < k → (∀ q (h : q < s.length), q < i → s[q] < x) → (∀ q (h : q < s.length), j ≤ q → x ≤ s[q]) →
    ∃ p, slices_BinarySearch_int_int.l0 k s x (s.length : Int) (i : Int) (j : Int) = some (p, decide (x ∈ s))
  | 0, i, j, k, hn, hij, hj, hk, h1, h2 => by
    obtain ⟨k, rfl⟩ : ∃ m, k = m + 1 := ⟨k - 1, by omega⟩
    have e : i = j := by omega
    subst e
    simp only [slices_BinarySearch_int_int.l0]
    rw [if_neg (by omega)]
    by_cases c : i < s.length
    · rw [if_pos (by omega), if_pos (by omega), if_pos (by omega), rd_get s i c]
      by_cases cx : s[i] = x
      · rw [if_pos cx]
        refine ⟨(i : Int), ?_⟩
        have : decide (x ∈ s) = true := decide_eq_true (by rw [← cx]; exact List.getElem_mem c)
        rw [this]
      · rw [if_neg cx]
        refine ⟨(i : Int), ?_⟩
        have hn2 : decide (x ∈ s) = false := by
          rw [decide_eq_false_iff_not]
          intro hm
          obtain ⟨q, hq, e⟩ := List.mem_iff_getElem.mp hm
          by_cases c3 : q < i
          · have := h1 q hq c3; omega
          · have a1 := h2 i c (Nat.le_refl _)
            by_cases c4 : q = i
            · subst c4; exact cx e
            · have := List.pairwise_iff_getElem.mp hs i q c hq (by omega)
              omega
        rw [hn2]
        unfold slices_isNaN_int.f
        rw [Option.bind_some, bne_self_eq_false, if_neg (by decide)]
    · rw [if_neg (by omega)]
      refine ⟨(i : Int), ?_⟩
      have hn2 : decide (x ∈ s) = false := by
        rw [decide_eq_false_iff_not]
        intro hm
        obtain ⟨q, hq, e⟩ := List.mem_iff_getElem.mp hm
        have := h1 q hq (by omega); omega
      rw [hn2]
  | n + 1, i, j, k, hn, hij, hj, hk, h1, h2 => by
    by_cases c0 : i = j
    · exact search_from s x hs hl 0 i j k (by omega) hij hj (by omega) h1 h2
    · obtain ⟨k, rfl⟩ : ∃ m, k = m + 1 := ⟨k - 1, by omega⟩
      have hm : wrap64 (IntKind.u64.wrap (wrap64 ((i : Int) + (j : Int))) / 2) = (((i + j) / 2 : Nat) : Int) := by
        rw [IdsPlain.wrap_small (x := (i : Int) + (j : Int)) (by omega) (by omega)]
        have : IntKind.u64.wrap ((i : Int) + (j : Int)) = (i : Int) + (j : Int) := by
          simp [IntKind.wrap, IntKind.bits, IntKind.signed]; omega
        rw [this, IdsPlain.wrap_small (by omega) (by omega)]
        omega
      obtain ⟨m, hme⟩ : ∃ m, m = (i + j) / 2 := ⟨_, rfl⟩
      have hm1 : i ≤ m := by omega
      have hm2 : m < j := by omega
      have hless : cmp_Less_int.f (rd s (m : Int)) x = some (decide (rd s (m : Int) < x)) := by
        unfold cmp_Less_int.f cmp_isNaN_int.f
        rw [Option.bind_some, bne_self_eq_false, if_neg (by decide)]
      have hw : wrap64 ((m : Int) + 1) = ((m + 1 : Nat) : Int) := next m (by omega)
      simp only [slices_BinarySearch_int_int.l0]
      rw [if_pos (by omega), hm, ← hme, if_pos (by omega), if_pos (by omega), hless, Option.bind_some, hw, rd_get s m (by omega)]
      by_cases c : s[m]'(by omega) < x
      · rw [if_pos (decide_eq_true c)]
        refine search_from s x hs hl n (m + 1) j k (by omega) (by omega) hj (by omega) (fun q hq hqm => ?_) h2
        by_cases e : q = m
        · subst e; exact c
        · have := List.pairwise_iff_getElem.mp hs q m hq (by omega) (by omega)
          omega
      · rw [if_neg (by simpa using c)]
        refine search_from s x hs hl n i m k (by omega) (by omega) (by omega) (by omega) h1 (fun q hq hqm => ?_)
        by_cases e : q = m
        · subst e; omega
        · have := List.pairwise_iff_getElem.mp hs m q (by omega) hq (by omega)
          omega
theorem ihas_f (k : Nat) (s : List Int) (x : Int) (hs : Ris s) (hl : s.length ≤ 1000000) (hk : s.length < k) : ids_Has.f k s x = some (decide (x ∈ s)) := by
  obtain ⟨p, hp⟩ := search_from s x hs hl s.length 0 s.length k (by omega) (by omega) (Nat.le_refl _) hk (fun q _ h => by omega) (fun q hq h => by omega)
  unfold ids_Has.f slices_BinarySearch_int_int.f
  rw [Int.ofNat_zero] at hp
  rw [hp]
  rfl
end Go.Proofs.Ytgjncbnjgmfjeaa.IdsRef
