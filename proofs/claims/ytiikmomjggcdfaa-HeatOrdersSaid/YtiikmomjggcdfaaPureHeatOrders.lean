/- Heats have one order, both ways and through three: no numbers first, and nought below ahead of nought. Conditions: none beyond the statement's own. -/
import Derived.Test.YtiikmomjggcdfaaPAx7
import Derived.Test.YtiikmomjggcdfaaFlt
import Derived.Test.YtiikmomjggcdfaaHeatAwake
namespace Go.Proofs.Ytiikmomjggcdfaa.Pure
open Go.RowKit Go.Proofs.Ytiikmomjggcdfaa.PA Go.Proofs.Ytiikmomjggcdfaa.Flt Go.Proofs.YtiikmomjggcdfaaW.PrintWords Go.Proofs.YtiikmomjggcdfaaW.PrintLast
set_option linter.unusedVariables false
theorem HeatOrders : dowserlaw03_HeatOrders.Pure := by
  intro a0 a1 a2 h0 h1 h2
  refine ⟨1, ?_⟩
  obtain ⟨l0, _⟩ := nat64 h0
  obtain ⟨l1, _⟩ := nat64 h1
  obtain ⟨l2, _⟩ := nat64 h2
  unfold dowserlaw03_HeatOrders.f
  rw [HeatAwake.awake_f]
  simp only [Option.bind_some, if_true]
  rw [compare_f _ _ l0 l1, compare_f _ _ l1 l2, compare_f _ _ l1 l0, compare_f _ _ l0 l0, compare_f _ _ l0 l2, rcompare_f 0 _ _ l0 l1, rbits_f _ l0, rbits_f _ l1]
  simp only [Option.bind_some, if_true]
  have e1 : cmp a1.toNat a0.toNat = wrap64 (-cmp a0.toNat a1.toNat) := by
    unfold cmp wrap64
    by_cases c : key a0.toNat < key a1.toNat
    · rw [if_neg (by omega), if_pos c, if_pos c]; rfl
    · by_cases d : key a0.toNat > key a1.toNat
      · rw [if_pos d, if_neg c, if_pos d]; rfl
      · rw [if_neg d, if_neg c, if_neg c, if_neg d]; rfl
  have e2 : cmp a0.toNat a0.toNat = 0 := by unfold cmp; rw [if_neg (by omega), if_neg (by omega)]
  rw [if_pos e1, if_pos e2]
  have e3 : ¬ (((cmp a0.toNat a1.toNat == 0) != ((canon a0.toNat : Int) == (canon a1.toNat : Int))) = true) := by
    have hk := key_inj l0 l1
    by_cases c : key a0.toNat = key a1.toNat
    · have hc := hk.mp c
      have : cmp a0.toNat a1.toNat = 0 := by unfold cmp; rw [if_neg (by omega), if_neg (by omega)]
      rw [this, hc]; simp
    · have hc : ¬ canon a0.toNat = canon a1.toNat := fun h => c (hk.mpr h)
      have h1 : ¬ cmp a0.toNat a1.toNat = 0 := by
        unfold cmp
        by_cases d : key a0.toNat < key a1.toNat
        · rw [if_pos d]; decide
        · rw [if_neg d, if_pos (by omega)]; decide
      have h2 : ((canon a0.toNat : Int) == (canon a1.toNat : Int)) = false := by rw [beq_eq_false_iff_ne]; omega
      have h3 : (cmp a0.toNat a1.toNat == 0) = false := by rw [beq_eq_false_iff_ne]; exact h1
      rw [h2, h3]; decide
  rw [if_neg e3]
  by_cases p : cmp a0.toNat a1.toNat ≤ 0
  · rw [if_pos p]
    by_cases q : cmp a1.toNat a2.toNat ≤ 0
    · rw [if_pos q]
      have : ¬ cmp a0.toNat a2.toNat > 0 := by
        unfold cmp at p q ⊢
        split at p <;> split at q <;> split <;> (try split at p) <;> (try split at q) <;> (try split) <;> omega
      simp [this]
    · rw [if_neg q]; rfl
  · rw [if_neg p]; rfl
end Go.Proofs.Ytiikmomjggcdfaa.Pure
