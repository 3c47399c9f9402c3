/- What is in either, in both, in one alone is just that; what is answered shares nothing with what was asked. Conditions: none beyond the statement's own. -/
import Derived.Test.YtgjncbnjgmfjeaaPAx33
import Derived.Test.YtgjncbnjgmfjeaaIdsPlain
import Derived.Test.YtgjncbnjgmfjeaaIdsRef
import Derived.Test.YtgjncbnjgmfjeaaIdsMore
import Derived.Test.YtgjncbnjgmfjeaaIdsAwake
namespace Go.Proofs.Ytgjncbnjgmfjeaa.Pure
open Go.RowKit Go.Proofs.Ytgjncbnjgmfjeaa.PA Go.Proofs.Ytgjncbnjgmfjeaa.IdsPlain Go.Proofs.Ytgjncbnjgmfjeaa.IdsRef Go.Proofs.Ytgjncbnjgmfjeaa.IdsMore Go.Proofs.Ytgjncbnjgmfjeaa.IdsAwake Go.Proofs.YtgjncbnjgmfjeaaW.PrintWords Go.Proofs.YtgjncbnjgmfjeaaW.PrintLast
set_option linter.unusedVariables false
theorem uni_f (a b : List Int) (h : a.length + b.length ≤ 1000000) : ids_Union.f a b = some (uni a b) := by unfold ids_Union.f; rw [if_pos h]
theorem both_f (a b : List Int) (h : a.length + b.length ≤ 1000000) : ids_Both.f a b = some (both a b) := by unfold ids_Both.f; rw [if_pos h]
theorem minus_f (a b : List Int) (h : a.length + b.length ≤ 1000000) : ids_Minus.f a b = some (minus a b) := by unfold ids_Minus.f; rw [if_pos h]
theorem IdsTwo : dowserlaw04_IdsTwo.Pure := by
  intro l0 l1 _ _ _ _ _ _
  refine ⟨1000, ?_⟩
  have q0 := few_len l0
  have q1 := few_len l1
  unfold dowserlaw04_IdsTwo.f
  rw [awake_f _ (by omega), Option.bind_some, if_pos rfl, of_f _ _ (by omega) (by omega), Option.bind_some, of_f _ _ (by omega) (by omega), Option.bind_some]
  have ra := set_ris (l0.take 40)
  have rb := set_ris (l1.take 40)
  have la := set_len (l0.take 40)
  have lb := set_len (l1.take 40)
  generalize setOf (l0.take 40) = a at *
  generalize setOf (l1.take 40) = b at *
  obtain ⟨n1, n2⟩ := lens_of a b
  have hu := uni_ris ra rb
  have hb := both_ris ra rb
  have hm := minus_ris ra rb
  have e1 : setOf (a ++ b) = uni a b := ris_ext _ _ (set_ris _) hu (fun x => by rw [set_mem, List.mem_append, uni_mem ra rb])
  have e2 : a.filter (fun x => decide (x ∈ b) == true) = both a b := ris_ext _ _ (ra.filter _) hb (fun x => by rw [List.mem_filter, both_mem ra rb]; simp)
  have e3 : a.filter (fun x => decide (x ∈ b) == false) = minus a b := ris_ext _ _ (ra.filter _) hm (fun x => by rw [List.mem_filter, minus_mem ra rb]; simp)
  rw [uni_f a b (by omega), Option.bind_some, both_f a b (by omega), Option.bind_some, minus_f a b (by omega), Option.bind_some]
  rw [runion_f _ a b (by omega) (by omega), e1, Option.bind_some, keep_f _ a b true (by omega) (by omega) (by omega), e2, Option.bind_some, keep_f _ a b false (by omega) (by omega) (by omega), e3, Option.bind_some]
  rw [same_f _ _ _ (by omega) (by omega), Option.bind_some, same_f _ _ _ (by omega) (by omega), Option.bind_some, same_f _ _ _ (by omega) (by omega), Option.bind_some]
  rw [meets_f ra rb (by omega), Option.bind_some, isame_f _ _ _ (by omega) (by omega), Option.bind_some, same_f _ _ _ (by omega) (by omega), Option.bind_some, within_f ra rb (by omega), Option.bind_some]
  rw [icmp_f _ a b (by omega) (by omega) (by omega), Option.bind_some, rcmp_f _ a b (by omega) (by omega) (by omega), Option.bind_some, icmp_f _ b a (by omega) (by omega) (by omega), Option.bind_some, same_f _ _ _ (by omega) (by omega), Option.bind_some, same_f _ _ _ (by omega) (by omega), Option.bind_some]
  rw [if_pos]
  refine ⟨decide_eq_true rfl, decide_eq_true rfl, decide_eq_true rfl, ?_, rfl, ?_, rfl, ?_, decide_eq_true rfl, decide_eq_true rfl⟩
  · rw [decide_eq_decide]
    constructor
    · rintro ⟨x, h1, h2⟩
      exact List.length_pos_of_mem ((both_mem ra rb x).mpr ⟨h1, h2⟩)
    · intro h
      have := List.getElem_mem h
      have h2 := (both_mem ra rb _).mp this
      exact ⟨_, h2.1, h2.2⟩
  · rw [Bool.eq_iff_iff, decide_eq_true_iff, beq_iff_eq]
    constructor
    · intro h
      have : minus a b = [] := by
        rw [List.eq_nil_iff_forall_not_mem]
        intro x hx
        have h2 := (minus_mem ra rb x).mp hx
        exact h2.2 (h x h2.1)
      rw [this]; rfl
    · intro h x hx
      apply Decidable.byContradiction
      intro hn
      have := List.length_pos_of_mem ((minus_mem ra rb x).mpr ⟨hx, hn⟩)
      omega
  · rw [cmpL_neg]
    have := cmpL_range a b
    rw [IdsPlain.wrap_small (by omega) (by omega)]
end Go.Proofs.Ytgjncbnjgmfjeaa.Pure
