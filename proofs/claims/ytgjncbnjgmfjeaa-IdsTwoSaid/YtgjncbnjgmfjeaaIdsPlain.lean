/- Sets as rising lists: what the program's layer of sets and the document's compute. Conditions: none. -/
import Derived.Test.YtgjncbnjgmfjeaaPAx13
import Derived.Test.YtgjncbnjgmfjeaaPAx14
import Derived.Test.YtgjncbnjgmfjeaaPAx15
import Derived.Test.YtgjncbnjgmfjeaaPAx16
import Derived.Test.YtgjncbnjgmfjeaaPAx17
import Derived.Test.YtgjncbnjgmfjeaaPAx18
import Derived.Test.YtgjncbnjgmfjeaaPAx19
import Derived.Test.YtgjncbnjgmfjeaaPAx2
import Derived.Test.YtgjncbnjgmfjeaaPAx21
namespace Go.Proofs.Ytgjncbnjgmfjeaa.IdsPlain
open Go.RowKit Go.Proofs.Ytgjncbnjgmfjeaa.PA Go.Proofs.YtgjncbnjgmfjeaaW.PrintWords Go.Proofs.YtgjncbnjgmfjeaaW.PrintLast
set_option linter.unusedVariables false
theorem wrap_small {x : Int} (h0 : -9223372036854775808 ≤ x) (h1 : x ≤ 9223372036854775807) : wrap64 x = x := by unfold wrap64; omega
theorem rd_get (l : List Int) (i : Nat) (h : i < l.length) : rd l (i : Int) = l[i] := by
  unfold rd; rw [Int.toNat_natCast, List.getD_eq_getElem?_getD, List.getElem?_eq_getElem h]; rfl
/-- rising -/
abbrev Ris (l : List Int) : Prop := l.Pairwise (· < ·)
theorem ris_ext : ∀ (a b : List Int), Ris a → Ris b → (∀ x, x ∈ a ↔ x ∈ b) → a = b
  | [], [], _, _, _ => rfl
  | [], y :: b, _, _, h => by have := (h y).mpr (by simp); simp at this
  | x :: a, [], _, _, h => by have := (h x).mp (by simp); simp at this
  | x :: a, y :: b, ha, hb, h => by
    replace ha := List.pairwise_cons.mp ha
    replace hb := List.pairwise_cons.mp hb
    have hxy : x = y := by
      have h1 := (h x).mp (by simp)
      have h2 := (h y).mpr (by simp)
      rw [List.mem_cons] at h1 h2
      rcases h1 with h1 | h1
      · exact h1
      · rcases h2 with h2 | h2
        · exact h2.symm
        · have := ha.1 y h2; have := hb.1 x h1; omega
    subst hxy
    rw [ris_ext a b ha.2 hb.2 (fun z => ?_)]
    have hz := h z
    rw [List.mem_cons, List.mem_cons] at hz
    constructor
    · intro hm
      rcases hz.mp (.inr hm) with e | e
      · have := ha.1 z hm; omega
      · exact e
    · intro hm
      rcases hz.mpr (.inr hm) with e | e
      · have := hb.1 z hm; omega
      · exact e
/-! ### two sets gone through at once -/
theorem pick_spec (wf : Bool → Bool → Bool) : ∀ (n : Nat) (a b s : List Int), a.length + b.length ≤ n → Ris a → Ris b →
    ∃ r, walkN (pickStep wf) n a b s = s ++ r ∧ Ris r ∧ ∀ x, x ∈ r ↔ (x ∈ a ∨ x ∈ b) ∧ wf (decide (x ∈ a)) (decide (x ∈ b)) = true
  | 0, a, b, s, h, _, _ => by
    have ha : a = [] := List.eq_nil_of_length_eq_zero (by omega)
    have hb : b = [] := List.eq_nil_of_length_eq_zero (by omega)
    subst ha hb
    exact ⟨[], by simp [walkN], List.Pairwise.nil, fun x => by simp⟩
  | n + 1, [], [], s, h, _, _ => ⟨[], by simp [walkN], List.Pairwise.nil, fun x => by simp⟩
  | n + 1, [], y :: b, s, h, ha, hb => by
    replace hb := List.pairwise_cons.mp hb
    rw [List.length_cons] at h
    obtain ⟨r, h1, h2, h3⟩ := pick_spec wf n [] b (if wf false true = true then s ++ [y] else s) (by simp at h ⊢; omega) ha hb.2
    have hlt : ∀ x ∈ r, y < x := fun x hx => by
      have := (h3 x).mp hx
      simp at this
      exact hb.1 x this.1
    refine ⟨if wf false true = true then y :: r else r, ?_, ?_, fun x => ?_⟩
    · simp only [walkN, pickStep, if_true]
      rw [h1]
      split <;> simp
    · split
      · exact List.pairwise_cons.mpr ⟨hlt, h2⟩
      · exact h2
    · have hx := h3 x
      by_cases e : x = y
      · subst e
        have hn : ¬ x ∈ r := fun hm => by have := hlt x hm; omega
        have hd : decide (x ∈ ([] : List Int)) = false := by simp
        have hd2 : decide (x ∈ x :: b) = true := by simp
        rw [hd, hd2]
        by_cases c : wf false true = true
        · rw [if_pos c]; simp [c]
        · rw [if_neg c]; simp [c, hn]
      · have hd2 : (x ∈ y :: b) = (x ∈ b) := by rw [List.mem_cons]; simp [e]
        simp only [hd2]
        rw [← hx]
        split
        · rw [List.mem_cons]; simp [e]
        · rfl
  | n + 1, x :: a, [], s, h, ha, hb => by
    replace ha := List.pairwise_cons.mp ha
    rw [List.length_cons] at h
    obtain ⟨r, h1, h2, h3⟩ := pick_spec wf n a [] (if wf true false = true then s ++ [x] else s) (by simp at h ⊢; omega) ha.2 hb
    have hlt : ∀ z ∈ r, x < z := fun z hz => by
      have := (h3 z).mp hz
      simp at this
      exact ha.1 z this.1
    refine ⟨if wf true false = true then x :: r else r, ?_, ?_, fun z => ?_⟩
    · simp only [walkN, pickStep, if_true]
      rw [h1]
      split <;> simp
    · split
      · exact List.pairwise_cons.mpr ⟨hlt, h2⟩
      · exact h2
    · have hz := h3 z
      by_cases e : z = x
      · subst e
        have hn : ¬ z ∈ r := fun hm => by have := hlt z hm; omega
        have hd : decide (z ∈ ([] : List Int)) = false := by simp
        have hd2 : decide (z ∈ z :: a) = true := by simp
        rw [hd, hd2]
        by_cases c : wf true false = true
        · rw [if_pos c]; simp [c]
        · rw [if_neg c]; simp [c, hn]
      · have hd2 : (z ∈ x :: a) = (z ∈ a) := by rw [List.mem_cons]; simp [e]
        simp only [hd2]
        rw [← hz]
        split
        · rw [List.mem_cons]; simp [e]
        · rfl
  | n + 1, x :: a, y :: b, s, h, ha, hb => by
    have ha' := ha
    have hb' := hb
    replace ha := List.pairwise_cons.mp ha
    replace hb := List.pairwise_cons.mp hb
    rw [List.length_cons, List.length_cons] at h
    by_cases c1 : x < y
    · obtain ⟨r, h1, h2, h3⟩ := pick_spec wf n a (y :: b) (if wf true false = true then s ++ [x] else s) (by rw [List.length_cons]; omega) ha.2 hb'
      have hxb : ¬ x ∈ y :: b := by
        rw [List.mem_cons]; rintro (e | e)
        · omega
        · have := hb.1 x e; omega
      have hlt : ∀ z ∈ r, x < z := fun z hz => by
        have := ((h3 z).mp hz).1
        rw [List.mem_cons] at this
        rcases this with e | e | e
        · exact ha.1 z e
        · omega
        · have := hb.1 z e; omega
      refine ⟨if wf true false = true then x :: r else r, ?_, ?_, fun z => ?_⟩
      · simp only [walkN, pickStep, if_true]
        rw [if_pos c1, h1]
        split <;> simp
      · split
        · exact List.pairwise_cons.mpr ⟨hlt, h2⟩
        · exact h2
      · have hz := h3 z
        by_cases e : z = x
        · subst e
          have hn : ¬ z ∈ r := fun hm => by have := hlt z hm; omega
          have hd : decide (z ∈ y :: b) = false := decide_eq_false hxb
          have hd2 : decide (z ∈ z :: a) = true := by simp
          rw [hd, hd2]
          by_cases c : wf true false = true
          · rw [if_pos c]; simp [c]
          · rw [if_neg c]; simp [c, hn]
        · have hd2 : (z ∈ x :: a) = (z ∈ a) := by rw [List.mem_cons]; simp [e]
          simp only [hd2]
          rw [← hz]
          split
          · rw [List.mem_cons]; simp [e]
          · rfl
    · by_cases c2 : y < x
      · obtain ⟨r, h1, h2, h3⟩ := pick_spec wf n (x :: a) b (if wf false true = true then s ++ [y] else s) (by rw [List.length_cons]; omega) ha' hb.2
        have hya : ¬ y ∈ x :: a := by
          rw [List.mem_cons]; rintro (e | e)
          · omega
          · have := ha.1 y e; omega
        have hlt : ∀ z ∈ r, y < z := fun z hz => by
          have := ((h3 z).mp hz).1
          rw [List.mem_cons] at this
          rcases this with (e | e) | e
          · omega
          · have := ha.1 z e; omega
          · exact hb.1 z e
        refine ⟨if wf false true = true then y :: r else r, ?_, ?_, fun z => ?_⟩
        · simp only [walkN, pickStep, if_true]
          rw [if_neg c1, if_pos c2, h1]
          split <;> simp
        · split
          · exact List.pairwise_cons.mpr ⟨hlt, h2⟩
          · exact h2
        · have hz := h3 z
          by_cases e : z = y
          · subst e
            have hn : ¬ z ∈ r := fun hm => by have := hlt z hm; omega
            have hd : decide (z ∈ x :: a) = false := decide_eq_false hya
            have hd2 : decide (z ∈ z :: b) = true := by simp
            rw [hd, hd2]
            by_cases c : wf false true = true
            · rw [if_pos c]; simp [c]
            · rw [if_neg c]; simp [c, hn]
          · have hd2 : (z ∈ y :: b) = (z ∈ b) := by rw [List.mem_cons]; simp [e]
            simp only [hd2]
            rw [← hz]
            split
            · rw [List.mem_cons]; simp [e]
            · rfl
      · have hxy : x = y := by omega
        subst hxy
        obtain ⟨r, h1, h2, h3⟩ := pick_spec wf n a b (if wf true true = true then s ++ [x] else s) (by omega) ha.2 hb.2
        have hlt : ∀ z ∈ r, x < z := fun z hz => by
          rcases ((h3 z).mp hz).1 with e | e
          · exact ha.1 z e
          · exact hb.1 z e
        refine ⟨if wf true true = true then x :: r else r, ?_, ?_, fun z => ?_⟩
        · simp only [walkN, pickStep, if_true]
          rw [if_neg c1, if_neg c1, h1]
          split <;> simp
        · split
          · exact List.pairwise_cons.mpr ⟨hlt, h2⟩
          · exact h2
        · have hz := h3 z
          by_cases e : z = x
          · subst e
            have hn : ¬ z ∈ r := fun hm => by have := hlt z hm; omega
            have hd : decide (z ∈ z :: b) = true := by simp
            have hd2 : decide (z ∈ z :: a) = true := by simp
            rw [hd, hd2]
            by_cases c : wf true true = true
            · rw [if_pos c]; simp [c]
            · rw [if_neg c]; simp [c, hn]
          · have hd2 : (z ∈ x :: a) = (z ∈ a) := by rw [List.mem_cons]; simp [e]
            have hd3 : (z ∈ x :: b) = (z ∈ b) := by rw [List.mem_cons]; simp [e]
            simp only [hd2, hd3]
            rw [← hz]
            split
            · rw [List.mem_cons]; simp [e]
            · rfl
theorem pickL_spec (wf : Bool → Bool → Bool) (a b : List Int) (ha : Ris a) (hb : Ris b) : Ris (pickL wf a b) ∧ ∀ x, x ∈ pickL wf a b ↔ (x ∈ a ∨ x ∈ b) ∧ wf (decide (x ∈ a)) (decide (x ∈ b)) = true := by
  obtain ⟨r, h1, h2, h3⟩ := pick_spec wf (a.length + b.length) a b [] (Nat.le_refl _) ha hb
  have e : pickL wf a b = r := by unfold pickL; rw [h1]; rfl
  rw [e]; exact ⟨h2, h3⟩
abbrev uni (a b : List Int) : List Int := pickL (fun _ _ => true) a b
abbrev both (a b : List Int) : List Int := pickL (fun p q => p && q) a b
abbrev minus (a b : List Int) : List Int := pickL (fun _ q => !q) a b
theorem uni_mem {a b : List Int} (ha : Ris a) (hb : Ris b) (x : Int) : x ∈ uni a b ↔ x ∈ a ∨ x ∈ b := by
  rw [(pickL_spec _ a b ha hb).2]; simp
theorem both_mem {a b : List Int} (ha : Ris a) (hb : Ris b) (x : Int) : x ∈ both a b ↔ x ∈ a ∧ x ∈ b := by
  rw [(pickL_spec _ a b ha hb).2]; simp only [Bool.and_eq_true, decide_eq_true_eq]
  exact ⟨fun h => h.2, fun h => ⟨.inl h.1, h⟩⟩
theorem minus_mem {a b : List Int} (ha : Ris a) (hb : Ris b) (x : Int) : x ∈ minus a b ↔ x ∈ a ∧ ¬ x ∈ b := by
  rw [(pickL_spec _ a b ha hb).2]; simp only [Bool.not_eq_true', decide_eq_false_iff_not]
  constructor
  · rintro ⟨h | h, h2⟩
    · exact ⟨h, h2⟩
    · exact absurd h h2
  · rintro ⟨h, h2⟩; exact ⟨.inl h, h2⟩
theorem uni_ris {a b : List Int} (ha : Ris a) (hb : Ris b) : Ris (uni a b) := (pickL_spec _ a b ha hb).1
theorem both_ris {a b : List Int} (ha : Ris a) (hb : Ris b) : Ris (both a b) := (pickL_spec _ a b ha hb).1
theorem minus_ris {a b : List Int} (ha : Ris a) (hb : Ris b) : Ris (minus a b) := (pickL_spec _ a b ha hb).1
theorem lens : ∀ (n : Nat) (a b s t u : List Int), a.length + b.length ≤ n →
    (walkN (pickStep fun _ _ => true) n a b s).length + (walkN (pickStep fun p q => p && q) n a b t).length = s.length + t.length + a.length + b.length ∧
    (walkN (pickStep fun _ q => !q) n a b u).length + (walkN (pickStep fun p q => p && q) n a b t).length = u.length + t.length + a.length
  | 0, a, b, s, t, u, h => by
    have ha : a = [] := List.eq_nil_of_length_eq_zero (by omega)
    have hb : b = [] := List.eq_nil_of_length_eq_zero (by omega)
    subst ha hb
    simp [walkN]
  | n + 1, [], [], s, t, u, h => by simp [walkN]
  | n + 1, [], y :: b, s, t, u, h => by
    rw [List.length_cons] at h
    have := lens n [] b (s ++ [y]) t u (by simp at h ⊢; omega)
    simp [walkN, pickStep] at this ⊢
    omega
  | n + 1, x :: a, [], s, t, u, h => by
    rw [List.length_cons] at h
    have := lens n a [] (s ++ [x]) t (u ++ [x]) (by simp at h ⊢; omega)
    simp [walkN, pickStep] at this ⊢
    omega
  | n + 1, x :: a, y :: b, s, t, u, h => by
    rw [List.length_cons, List.length_cons] at h
    by_cases c1 : x < y
    · have := lens n a (y :: b) (s ++ [x]) t (u ++ [x]) (by rw [List.length_cons]; omega)
      simp [walkN, pickStep, c1] at this ⊢
      omega
    · by_cases c2 : y < x
      · have := lens n (x :: a) b (s ++ [y]) t u (by rw [List.length_cons]; omega)
        simp [walkN, pickStep, c1, c2] at this ⊢
        omega
      · have := lens n a b (s ++ [x]) (t ++ [x]) u (by omega)
        simp [walkN, pickStep, c1, c2] at this ⊢
        omega
theorem lens_of (a b : List Int) : (uni a b).length + (both a b).length = a.length + b.length ∧ (minus a b).length + (both a b).length = a.length := by
  have := lens (a.length + b.length) a b [] [] [] (Nat.le_refl _)
  simp only [List.length_nil, Nat.zero_add] at this
  exact this
theorem within_spec : ∀ (n : Nat) (a b : List Int), a.length + b.length ≤ n → Ris a → Ris b → walkN withinStep n a b true = decide (∀ x ∈ a, x ∈ b)
  | 0, a, b, h, _, _ => by
    have ha : a = [] := List.eq_nil_of_length_eq_zero (by omega)
    subst ha
    simp [walkN]
  | n + 1, [], [], h, _, _ => by simp [walkN]
  | n + 1, [], y :: b, h, ha, hb => by
    replace hb := List.pairwise_cons.mp hb
    rw [List.length_cons] at h
    have := within_spec n [] b (by simp at h ⊢; omega) ha hb.2
    simp only [walkN]
    rw [show withinStep true y false true = (true, true) from rfl, if_pos rfl, this]; simp
  | n + 1, x :: a, [], h, ha, hb => by
    simp only [walkN]
    rw [show withinStep true x true false = (false, false) from rfl, if_neg (by decide)]
    symm
    rw [decide_eq_false_iff_not]
    intro hh
    have := hh x (by simp)
    simp at this
  | n + 1, x :: a, y :: b, h, ha, hb => by
    have ha' := ha
    have hb' := hb
    replace ha := List.pairwise_cons.mp ha
    replace hb := List.pairwise_cons.mp hb
    rw [List.length_cons, List.length_cons] at h
    by_cases c1 : x < y
    · simp only [walkN]
      rw [if_pos c1, show withinStep true x true false = (false, false) from rfl, if_neg (by decide)]
      symm
      rw [decide_eq_false_iff_not]
      intro hh
      have := hh x (by simp)
      rw [List.mem_cons] at this
      rcases this with e | e
      · omega
      · have := hb.1 x e; omega
    · by_cases c2 : y < x
      · have := within_spec n (x :: a) b (by rw [List.length_cons]; omega) ha' hb.2
        simp only [walkN]
        rw [if_neg c1, if_pos c2, show withinStep true y false true = (true, true) from rfl, if_pos rfl, this, decide_eq_decide]
        constructor
        · intro hh z hz; exact List.mem_cons_of_mem _ (hh z hz)
        · intro hh z hz
          have := hh z hz
          rw [List.mem_cons] at this
          rcases this with e | e
          · rw [List.mem_cons] at hz
            rcases hz with e2 | e2
            · omega
            · have := ha.1 z e2; omega
          · exact e
      · have hxy : x = y := by omega
        subst hxy
        have := within_spec n a b (by omega) ha.2 hb.2
        simp only [walkN]
        rw [if_neg c1, if_neg c1, show withinStep true x true true = (true, true) from rfl, if_pos rfl, this, decide_eq_decide]
        constructor
        · intro hh z hz
          rw [List.mem_cons] at hz ⊢
          rcases hz with e | e
          · exact .inl e
          · exact .inr (hh z e)
        · intro hh z hz
          have := hh z (List.mem_cons_of_mem _ hz)
          rw [List.mem_cons] at this
          rcases this with e | e
          · have := ha.1 z hz; omega
          · exact e
theorem within_f {a b : List Int} (ha : Ris a) (hb : Ris b) (hm : a.length + b.length ≤ 1000000) : ids_Within.f a b = some (decide (∀ x ∈ a, x ∈ b)) := by
  unfold ids_Within.f; rw [if_pos hm, within_spec _ a b (Nat.le_refl _) ha hb]
end Go.Proofs.Ytgjncbnjgmfjeaa.IdsPlain
