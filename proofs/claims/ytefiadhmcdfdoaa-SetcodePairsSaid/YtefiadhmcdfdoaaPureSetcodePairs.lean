/- Pairs that rise have the document's bytes, and come back; others are told: the pure statement of SetcodePairs, for every list of pairs. -/
import Derived.Test.YtefiadhmcdfdoaaPCx12
import Derived.Test.YtefiadhmcdfdoaaSetAwake
import Derived.Test.YtefiadhmcdfdoaaPairRef
namespace Go.Proofs.Ytefiadhmcdfdoaa.Pure
open Go.RowKit Go.Proofs.Ytefiadhmcdfdoaa.PC Go.Proofs.YtefiadhmcdfdoaaW.PrintWords Go.Proofs.YtefiadhmcdfdoaaW.PrintLast Go.Proofs.Ytefiadhmcdfdoaa.VarPlain Go.Proofs.Ytefiadhmcdfdoaa.SetPlain
theorem pairs_core (m : List P2) (hm : m.length ≤ 30) :
    ((setcode_Pairs.f 20000 m).bind fun bt327 => ((dowserref13_Rise.f 20000 m).bind fun t329 => (if t329 = true then ((setcode_FromPairs.f 20000 bt327.1).bind fun bt330 => (if bt327.2 = 0 then ((dowserref13_Pairs.f 20000 m).bind fun t334 => (if bt327.1.toList = t334.toList then (if bt330.2 = 0 then ((dowserlaw13_same.f 20000 bt330.1 m).bind fun t335 => (some t335)) else (none)) else (none))) else (none))) else (if bt327.2 = 1 then (some (bt327.1.toList == ([] : List UInt8))) else (none))))) = some true := by
  rw [pairs_is 20000 m (by omega) (by omega)]
  simp only [Option.bind_some]
  rw [refrise_is 20000 m (by omega) (by omega)]
  simp only [Option.bind_some]
  cases h : ris2 m with
  | false =>
    simp only [Bool.false_eq_true, if_false, if_true]
    rw [toList_lst]; rfl
  | true =>
    have hn := ris2_num h
    have hlen := encP_len m hn
    have hl2 := enc_len_u64 (x := m.length) (by omega)
    have hsz : (encPAll m).length ≤ 610 := by unfold encPAll; rw [List.length_append]; omega
    rw [if_pos rfl, if_pos rfl]
    simp only
    rw [fromP_is 20000 (encPAll m) (by omega) (by omega), fromP_enc m h (by omega)]
    simp only [Option.bind_some, if_true]
    rw [refpairs_is 20000 m (by omega) (by omega) hn]
    simp only [Option.bind_some, if_true]
    rw [same2_is 20000 m (by omega) (by omega)]
    rfl
theorem SetcodePairs : dowserlaw13_SetcodePairs.Pure := by
  intro l0 _
  refine ⟨20000, ?_⟩
  unfold dowserlaw13_SetcodePairs.f
  rw [awake13_is 20000 (by omega)]
  simp only [Option.bind_some, if_true]
  by_cases c : (l0.length : Int) > 30
  · rw [if_pos c, if_pos (by omega)]
    exact pairs_core (l0.take 30) (by rw [List.length_take]; omega)
  · rw [if_neg c]
    exact pairs_core l0 (by omega)
end Go.Proofs.Ytefiadhmcdfdoaa.Pure
