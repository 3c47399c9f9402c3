/- What Rank tells: the places, the greatest key first, and of equal keys the least place first: each once. Condition: bits of 64. -/
import Derived.Test.YtiikmomjggcdfaaPAx3
import Derived.Test.YtiikmomjggcdfaaFlt
import Derived.Sort.LotA
import Derived.Sort.WalkA
namespace Go.Proofs.Ytiikmomjggcdfaa.RankPlain
open Go.RowKit Go.Proofs.Ytiikmomjggcdfaa.PA Go.Proofs.Ytiikmomjggcdfaa.Flt Go.Proofs.YtiikmomjggcdfaaW.PrintWords Go.Proofs.YtiikmomjggcdfaaW.PrintLast Go.Sort
set_option linter.unusedVariables false
section
variable {α : Type} [Inhabited α] (idx : α → Nat) (lt ltB : α → α → Bool)
theorem inner_eq (hag : ∀ x y, idx y < idx x → lt x y = ltB x y) : ∀ (j : Nat) (d : Array α), j < d.size → (∀ k, k < j → idx d[k]! < idx d[j]!) → insInner lt 0 j d = insInner ltB 0 j d
  | 0, d, _, _ => rfl
  | j + 1, d, hj, h => by
    unfold insInner
    rw [hag _ _ (h j (by omega))]
    split
    · refine inner_eq hag j _ (by rw [swp_size]; omega) (fun k hk => ?_)
      rw [swp_get d hj (by omega), swp_get d hj (by omega), if_neg (by omega), if_neg (by omega), if_pos rfl]
      exact h k (by omega)
    · rfl
theorem inner_rest : ∀ (j : Nat) (d : Array α), j < d.size → ∀ k, j < k → (insInner lt 0 j d)[k]! = d[k]!
  | 0, d, _, _, _ => rfl
  | j + 1, d, hj, k, hk => by
    unfold insInner
    split
    · rw [inner_rest j _ (by rw [swp_size]; omega) k (by omega), swp_get d hj (by omega), if_neg (by omega), if_neg (by omega)]
    · rfl
theorem inner_all (P : α → Prop) : ∀ (j : Nat) (d : Array α), j < d.size → (∀ k, k ≤ j → P d[k]!) → ∀ k, k ≤ j → P (insInner lt 0 j d)[k]!
  | 0, d, _, h => h
  | j + 1, d, hj, h => by
    intro k hk
    unfold insInner
    split
    · by_cases c : k ≤ j
      · refine inner_all P j _ (by rw [swp_size]; omega) (fun q hq => ?_) k c
        rw [swp_get d hj (by omega)]
        split
        · exact h _ (Nat.le_refl _)
        · rw [if_neg (by omega)]; exact h q (by omega)
      · have hk' : k = j + 1 := by omega
        subst hk'
        rw [inner_rest lt j _ (by rw [swp_size]; omega) _ (by omega), swp_get d hj (by omega), if_neg (by omega), if_pos rfl]
        exact h j (by omega)
    · exact h k hk
theorem inner_size : ∀ (j : Nat) (d : Array α), (insInner lt 0 j d).size = d.size
  | 0, d => rfl
  | j + 1, d => by
    unfold insInner
    split
    · rw [inner_size j, swp_size]
    · rfl
theorem outer_eq (hag : ∀ x y, idx y < idx x → lt x y = ltB x y) (b : Nat) : ∀ (n i : Nat) (d : Array α), b - i = n → d.size = b → (∀ k, k < i → k < b → idx d[k]! < i) → (∀ k, i ≤ k → k < b → idx d[k]! = k) → insOuter lt 0 b i d = insOuter ltB 0 b i d
  | 0, i, d, hn, _, _, _ => by rw [insOuter_stop _ _ _ _ _ (by omega), insOuter_stop _ _ _ _ _ (by omega)]
  | n + 1, i, d, hn, hs, h1, h2 => by
    have hi : i < b := by omega
    rw [insOuter, if_pos hi]
    conv => rhs; rw [insOuter, if_pos hi]
    rw [← inner_eq idx lt ltB hag i d (by omega) (fun k hk => by rw [h2 i (Nat.le_refl _) hi]; exact h1 k hk (by omega))]
    refine outer_eq hag b n (i + 1) _ (by omega) (by rw [inner_size]; exact hs) (fun k hk hkb => ?_) (fun k hk hkb => ?_)
    · exact inner_all lt (fun x => idx x < i + 1) i d (by omega) (fun q hq => by
        by_cases c : q < i
        · have := h1 q c (by omega); omega
        · have := h2 q (by omega) (by omega); omega) k (by omega)
    · rw [inner_rest lt i d (by omega) k (by omega)]
      exact h2 k (by omega) hkb
end
/-- the one place goes ahead of the other -/
def before (l : List Nat) (i j : Int) : Prop := key (rdOf (0 : Nat) l j) < key (rdOf (0 : Nat) l i) ∨ key (rdOf (0 : Nat) l j) = key (rdOf (0 : Nat) l i) ∧ i < j
def bigger (l : List Nat) (x y : Fin l.length) : Bool := decide (key (rdOf (0 : Nat) l (y.val : Int)) < key (rdOf (0 : Nat) l (x.val : Int)) ∨ key (rdOf (0 : Nat) l (y.val : Int)) = key (rdOf (0 : Nat) l (x.val : Int)) ∧ x.val < y.val)
theorem rd_lt {l : List Nat} (hl : ∀ x ∈ l, x < 18446744073709551616) (i : Int) : rdOf (0 : Nat) l i < 18446744073709551616 := by
  unfold rdOf
  rw [List.getD_eq_getElem?_getD]
  cases h : l[i.toNat]? with
  | none => simp
  | some x => simpa using hl x (List.mem_of_getElem? h)
theorem rankCf_eq {l : List Nat} (hl : ∀ x ∈ l, x < 18446744073709551616) (x y : Fin l.length) : rankCf l x y = cmp (rdOf (0 : Nat) l (y.val : Int)) (rdOf (0 : Nat) l (x.val : Int)) := by
  unfold rankCf
  rw [compare_f _ _ (rd_lt hl _) (rd_lt hl _)]
  rfl
theorem swo_bigger (l : List Nat) : SWO (bigger l) := by
  constructor
  · intro x; unfold bigger; rw [decide_eq_false_iff_not]; omega
  · intro x y z h1 h2
    unfold bigger at *
    rw [decide_eq_true_iff] at *
    omega
  · intro x y z h1 h2
    unfold bigger at *
    rw [decide_eq_false_iff_not] at *
    omega
theorem rank_spec (l : List Nat) (hl : ∀ x ∈ l, x < 18446744073709551616) : (rankL l).Perm (rngL l.length) ∧ (rankL l).Pairwise (fun i j => ¬ before l j i) := by
  unfold rankL
  by_cases h : 0 < l.length
  · rw [dif_pos h]
    letI : Inhabited (Fin l.length) := ⟨⟨0, h⟩⟩
    have hd : (List.finRange l.length).toArray.size = l.length := by simp
    have hg : ∀ k, k < l.length → ((List.finRange l.length).toArray[k]!).val = k := fun k hk => by
      rw [getElem!_pos _ k (by rw [hd]; exact hk)]; simp
    have heq : Sort.insertionSort (ltOf (rankCf l)) (List.finRange l.length).toArray 0 l.length = Sort.insertionSort (bigger l) (List.finRange l.length).toArray 0 l.length := by
      unfold Sort.insertionSort
      refine outer_eq (fun x : Fin l.length => x.val) _ _ (fun x y hxy => ?_) l.length _ _ _ rfl hd (fun k hk hkb => ?_) (fun k hk hkb => hg k hkb)
      · unfold ltOf bigger
        rw [rankCf_eq hl, decide_eq_decide]
        unfold cmp
        constructor
        · intro hc
          left
          split at hc
          · assumption
          · split at hc <;> omega
        · intro hc
          have : key (rdOf (0 : Nat) l (y.val : Int)) < key (rdOf (0 : Nat) l (x.val : Int)) := by omega
          rw [if_pos this]; decide
      · rw [hg k hkb]; exact hk
    have hsp := Sort.insertionSort_holds (lt := bigger l) (swo_bigger l) (List.finRange l.length).toArray 0 l.length (Nat.zero_le _) (by rw [hd]; exact Nat.le_refl _)
    obtain ⟨⟨p1, _, p3⟩, s⟩ := hsp
    obtain ⟨D, hD⟩ : ∃ D, D = Sort.insertionSort (bigger l) (List.finRange l.length).toArray 0 l.length := ⟨_, rfl⟩
    rw [← hD] at p1 p3 s
    have hsz : D.size = l.length := by rw [p1, hd]
    have e0 : ((Sort.insertionSort (ltOf (rankCf l)) (List.finRange l.length).toArray 0 l.length).toList.map fun i => (i.val : Int)) = D.toList.map fun i => (i.val : Int) := by rw [heq, hD]
    rw [e0]
    constructor
    · have xx : ∀ (A : Array (Fin l.length)) (m : Nat), A.size = m → A.extract 0 m = A := fun A m hm => by subst hm; exact Array.extract_size
      have x1 := xx D _ hsz
      have x2 := xx _ _ hd
      rw [x1, x2] at p3
      have p4 := p3.map (fun i : Fin l.length => (i.val : Int))
      refine p4.trans ?_
      have : List.map (fun i : Fin l.length => (i.val : Int)) (List.finRange l.length).toArray.toList = rngL l.length := by
        unfold rngL
        apply List.ext_getElem
        · simp
        · intro i h1 h2; simp
      rw [this]
    · rw [List.pairwise_iff_getElem]
      intro i j hi hj hij
      rw [List.length_map, Array.length_toList] at hi hj
      rw [List.getElem_map, List.getElem_map, Array.getElem_toList, Array.getElem_toList]
      have hs := s i j (Nat.zero_le _) hij (by omega)
      rw [getElem!_pos _ j hj, getElem!_pos _ i hi] at hs
      unfold bigger at hs
      rw [decide_eq_false_iff_not] at hs
      unfold before
      omega
  · rw [dif_neg h]
    have : l.length = 0 := by omega
    rw [this]
    exact ⟨List.Perm.refl _, List.Pairwise.nil⟩
theorem unique {l : List Nat} {a b : List Int} (ha : a.Pairwise (fun i j => ¬ before l j i)) (hb : b.Pairwise (fun i j => ¬ before l j i)) (h : a.Perm b) : a = b :=
  List.Perm.eq_of_pairwise (le := fun i j => ¬ before l j i) (fun i j _ _ h1 h2 => by unfold before at h1 h2; omega) ha hb h
end Go.Proofs.Ytiikmomjggcdfaa.RankPlain
