/- Sets are united, and met, both ways and through three. Conditions: none beyond the statement's own. -/
import Derived.Test.YtgjncbnjgmfjeaaPAx20
import Derived.Test.YtgjncbnjgmfjeaaIdsPlain
import Derived.Test.YtgjncbnjgmfjeaaIdsRef
import Derived.Test.YtgjncbnjgmfjeaaIdsAwake
namespace Go.Proofs.Ytgjncbnjgmfjeaa.Pure
open Go.RowKit Go.Proofs.Ytgjncbnjgmfjeaa.PA Go.Proofs.Ytgjncbnjgmfjeaa.IdsPlain Go.Proofs.Ytgjncbnjgmfjeaa.IdsRef Go.Proofs.Ytgjncbnjgmfjeaa.IdsAwake Go.Proofs.YtgjncbnjgmfjeaaW.PrintWords Go.Proofs.YtgjncbnjgmfjeaaW.PrintLast
set_option linter.unusedVariables false
theorem uni_f (a b : List Int) (h : a.length + b.length ≤ 1000000) : ids_Union.f a b = some (uni a b) := by unfold ids_Union.f; rw [if_pos h]
theorem both_f (a b : List Int) (h : a.length + b.length ≤ 1000000) : ids_Both.f a b = some (both a b) := by unfold ids_Both.f; rw [if_pos h]
theorem minus_f (a b : List Int) (h : a.length + b.length ≤ 1000000) : ids_Minus.f a b = some (minus a b) := by unfold ids_Minus.f; rw [if_pos h]
theorem uni_len (a b : List Int) : (uni a b).length ≤ a.length + b.length := by have := (lens_of a b).1; omega
theorem both_len (a b : List Int) : (both a b).length ≤ a.length := by have := (lens_of a b).2; omega
theorem minus_len (a b : List Int) : (minus a b).length ≤ a.length := by have := (lens_of a b).2; omega
theorem IdsThree : dowserlaw04_IdsThree.Pure := by
  intro l0 l1 l2 _ _ _ _ _ _ _ _ _
  refine ⟨1000, ?_⟩
  have q0 := few_len l0
  have q1 := few_len l1
  have q2 := few_len l2
  unfold dowserlaw04_IdsThree.f
  rw [awake_f _ (by omega), Option.bind_some, if_pos rfl, of_f _ _ (by omega) (by omega), Option.bind_some, of_f _ _ (by omega) (by omega), Option.bind_some, of_f _ _ (by omega) (by omega), Option.bind_some]
  have ra := set_ris (l0.take 40)
  have rb := set_ris (l1.take 40)
  have rc := set_ris (l2.take 40)
  have la := set_len (l0.take 40)
  have lb := set_len (l1.take 40)
  have lc := set_len (l2.take 40)
  generalize setOf (l0.take 40) = a at *
  generalize setOf (l1.take 40) = b at *
  generalize setOf (l2.take 40) = c at *
  have n1 := uni_len b c
  have n2 := uni_len a b
  have n3 := uni_len a (uni b c)
  have n4 := both_len b c
  have n5 := both_len a b
  have n6 := both_len a c
  have n7 := minus_len a b
  have n8 := both_len a (both b c)
  have n9 := both_len a (uni b c)
  have n10 := minus_len (minus a b) c
  have n11 := uni_len (both a b) (minus a b)
  have e1 : uni a (uni b c) = uni (uni a b) c := ris_ext _ _ (uni_ris ra (uni_ris rb rc)) (uni_ris (uni_ris ra rb) rc) (fun x => by
    rw [uni_mem ra (uni_ris rb rc), uni_mem rb rc, uni_mem (uni_ris ra rb) rc, uni_mem ra rb, or_assoc])
  have e2 : both a (both b c) = both (both a b) c := ris_ext _ _ (both_ris ra (both_ris rb rc)) (both_ris (both_ris ra rb) rc) (fun x => by
    rw [both_mem ra (both_ris rb rc), both_mem rb rc, both_mem (both_ris ra rb) rc, both_mem ra rb, and_assoc])
  have e3 : both a (uni b c) = uni (both a b) (both a c) := ris_ext _ _ (both_ris ra (uni_ris rb rc)) (uni_ris (both_ris ra rb) (both_ris ra rc)) (fun x => by
    rw [both_mem ra (uni_ris rb rc), uni_mem rb rc, uni_mem (both_ris ra rb) (both_ris ra rc), both_mem ra rb, both_mem ra rc, and_or_left])
  have e4 : minus (minus a b) c = minus a (uni b c) := ris_ext _ _ (minus_ris (minus_ris ra rb) rc) (minus_ris ra (uni_ris rb rc)) (fun x => by
    rw [minus_mem (minus_ris ra rb) rc, minus_mem ra rb, minus_mem ra (uni_ris rb rc), uni_mem rb rc, not_or, and_assoc])
  have e5 : uni (both a b) (minus a b) = a := ris_ext _ _ (uni_ris (both_ris ra rb) (minus_ris ra rb)) ra (fun x => by
    rw [uni_mem (both_ris ra rb) (minus_ris ra rb), both_mem ra rb, minus_mem ra rb, ← and_or_left]
    exact ⟨fun h => h.1, fun h => ⟨h, Decidable.em _⟩⟩)
  rw [uni_f b c (by omega), Option.bind_some, uni_f a _ (by omega), Option.bind_some, uni_f a b (by omega), Option.bind_some, uni_f _ c (by omega), Option.bind_some, isame_f _ _ _ (by omega) (by omega), Option.bind_some, if_pos (decide_eq_true e1)]
  rw [both_f b c (by omega), Option.bind_some, both_f a _ (by omega), Option.bind_some, both_f a b (by omega), Option.bind_some, both_f _ c (by omega), Option.bind_some, isame_f _ _ _ (by omega) (by omega), Option.bind_some, if_pos (decide_eq_true e2)]
  rw [Option.bind_some, both_f a _ (by omega), Option.bind_some, Option.bind_some, both_f a c (by omega), Option.bind_some, uni_f _ _ (by omega), Option.bind_some, isame_f _ _ _ (by omega) (by omega), Option.bind_some, if_pos (decide_eq_true e3)]
  rw [minus_f a b (by omega), Option.bind_some, minus_f _ c (by omega), Option.bind_some, Option.bind_some, minus_f a _ (by omega), Option.bind_some, isame_f _ _ _ (by omega) (by omega), Option.bind_some, if_pos (decide_eq_true e4)]
  rw [Option.bind_some, Option.bind_some, uni_f _ _ (by omega), Option.bind_some, isame_f _ _ _ (by omega) (by omega), Option.bind_some, decide_eq_true e5]
end Go.Proofs.Ytgjncbnjgmfjeaa.Pure
