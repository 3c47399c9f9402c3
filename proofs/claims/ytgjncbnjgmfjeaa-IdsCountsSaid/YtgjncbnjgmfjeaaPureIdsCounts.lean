/- Union and Both have together as many numbers as both sets; Minus has what Both leaves. Conditions: none beyond the statement's own. -/
import Derived.Test.YtgjncbnjgmfjeaaPAx22
import Derived.Test.YtgjncbnjgmfjeaaIdsPlain
import Derived.Test.YtgjncbnjgmfjeaaIdsRef
import Derived.Test.YtgjncbnjgmfjeaaIdsAwake
namespace Go.Proofs.Ytgjncbnjgmfjeaa.Pure
open Go.RowKit Go.Proofs.Ytgjncbnjgmfjeaa.PA Go.Proofs.Ytgjncbnjgmfjeaa.IdsPlain Go.Proofs.Ytgjncbnjgmfjeaa.IdsRef Go.Proofs.Ytgjncbnjgmfjeaa.IdsAwake Go.Proofs.YtgjncbnjgmfjeaaW.PrintWords Go.Proofs.YtgjncbnjgmfjeaaW.PrintLast
set_option linter.unusedVariables false
theorem uni_f (a b : List Int) (h : a.length + b.length ≤ 1000000) : ids_Union.f a b = some (uni a b) := by unfold ids_Union.f; rw [if_pos h]
theorem both_f (a b : List Int) (h : a.length + b.length ≤ 1000000) : ids_Both.f a b = some (both a b) := by unfold ids_Both.f; rw [if_pos h]
theorem minus_f (a b : List Int) (h : a.length + b.length ≤ 1000000) : ids_Minus.f a b = some (minus a b) := by unfold ids_Minus.f; rw [if_pos h]
theorem IdsCounts : dowserlaw04_IdsCounts.Pure := by
  intro l0 l1 _ _ _ _ _ _
  refine ⟨1000, ?_⟩
  have q0 := few_len l0
  have q1 := few_len l1
  unfold dowserlaw04_IdsCounts.f
  rw [awake_f _ (by omega), Option.bind_some, if_pos rfl, of_f _ _ (by omega) (by omega), Option.bind_some, of_f _ _ (by omega) (by omega), Option.bind_some]
  have ra := set_ris (l0.take 40)
  have rb := set_ris (l1.take 40)
  have la := set_len (l0.take 40)
  have lb := set_len (l1.take 40)
  generalize setOf (l0.take 40) = a at *
  generalize setOf (l1.take 40) = b at *
  obtain ⟨n1, n2⟩ := lens_of a b
  have w1 : wrap64 (((uni a b).length : Int) + ((both a b).length : Int)) = wrap64 ((a.length : Int) + (b.length : Int)) := by congr 1; omega
  have w2 : ((minus a b).length : Int) = wrap64 ((a.length : Int) - ((both a b).length : Int)) := by rw [IdsPlain.wrap_small (by omega) (by omega)]; omega
  have hu := uni_ris ra rb
  have hb := both_ris ra rb
  rw [uni_f a b (by omega), Option.bind_some, both_f a b (by omega), Option.bind_some, if_pos w1, minus_f a b (by omega), Option.bind_some, if_pos w2]
  rw [within_f hb ra (by omega), Option.bind_some, if_pos (decide_eq_true (fun x hx => ((both_mem ra rb x).mp hx).1)), within_f ra hu (by omega), Option.bind_some, if_pos (decide_eq_true (fun x hx => (uni_mem ra rb x).mpr (.inl hx)))]
  rw [is_f _ _ (by omega) (by omega), Option.bind_some, if_pos (decide_eq_true hu), is_f _ _ (by omega) (by omega), Option.bind_some, if_pos (decide_eq_true hb), Option.bind_some, if_pos (by simp; omega), Option.bind_some, List.nil_append, if_pos (by omega)]
  rw [iof_f _ (by rw [List.length_append]; omega), Option.bind_some]
  have e : setOf (a ++ b) = uni a b := ris_ext _ _ (set_ris _) hu (fun x => by rw [set_mem, List.mem_append, uni_mem ra rb])
  rw [e, isame_f _ _ _ (by omega) (by omega), Option.bind_some, decide_eq_true rfl]
end Go.Proofs.Ytgjncbnjgmfjeaa.Pure
