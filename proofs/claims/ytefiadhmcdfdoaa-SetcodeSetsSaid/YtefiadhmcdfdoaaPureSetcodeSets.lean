/- A set's bytes are the document's, come back, and are no other set's; what is no set is told: the pure statement of SetcodeSets, for every two lists. -/
import Derived.Test.YtefiadhmcdfdoaaPAx12
import Derived.Test.YtefiadhmcdfdoaaPAx14
import Derived.Test.YtefiadhmcdfdoaaSetAwake
import Derived.Test.YtefiadhmcdfdoaaSetRef
namespace Go.Proofs.Ytefiadhmcdfdoaa.Pure
open Go.RowKit Go.Proofs.Ytefiadhmcdfdoaa.PA Go.Proofs.YtefiadhmcdfdoaaW.PrintWords Go.Proofs.YtefiadhmcdfdoaaW.PrintLast Go.Proofs.Ytefiadhmcdfdoaa.VarPlain Go.Proofs.Ytefiadhmcdfdoaa.SetPlain
theorem encAll_ne (l : List Int) : encAll l ≠ [] := by
  unfold encAll
  intro h
  have := enc_ne l.length
  exact this (List.append_eq_nil_iff.1 h).1
theorem SetcodeSets : dowserlaw13_SetcodeSets.Pure := by
  intro l0 l1 _ _ _ _ _ _
  refine ⟨5000, ?_⟩
  unfold dowserlaw13_SetcodeSets.f
  rw [awake13_is 5000 (by omega)]
  simp only [Option.bind_some, if_true]
  have hl : (l0.take 40).length ≤ 40 := by rw [List.length_take]; omega
  have hm : (l1.take 40).length ≤ 40 := by rw [List.length_take]; omega
  generalize l0.take 40 = l at hl ⊢
  generalize l1.take 40 = m at hm ⊢
  have el := enc_is 5000 l (by omega) (by omega)
  have em := enc_is 5000 m (by omega) (by omega)
  rw [el]
  simp only [Option.bind_some]
  rw [refset_is 5000 l (by omega) (by omega)]
  simp only [Option.bind_some, decide_eq_true_eq]
  by_cases hr : Rise (-1) l
  · rw [if_pos hr] at el
    rw [if_pos hr, if_pos hr]
    simp only
    rw [dec_is 5000 l hr (by omega) (by omega)]
    simp only [Option.bind_some]
    rw [em]
    simp only [Option.bind_some, if_true]
    rw [refenc_is 5000 l (by omega) (by omega) hr]
    simp only [Option.bind_some, if_true, setcode_Size.f]
    rw [el]
    simp only [Option.bind_some, if_true]
    rw [same_is 5000 l l (by omega) (by omega)]
    simp only [Option.bind_some, decide_true, if_true]
    rw [same_is 5000 l m (by omega) (by omega)]
    simp only [Option.bind_some]
    congr 1
    rw [beq_iff_eq, Bool.eq_iff_iff, beq_iff_eq, decide_eq_true_iff]
    by_cases hrm : Rise (-1) m
    · rw [if_pos hrm, toList_lst, toList_lst, lst_mk, lst_mk]
      exact ⟨fun h => encAll_inj hr hrm (by omega) (by omega) h, fun h => by rw [h]⟩
    · rw [if_neg hrm, toList_lst, toList_lst, lst_mk]
      exact ⟨fun h => absurd h (encAll_ne l), fun h => absurd (h ▸ hr) hrm⟩
  · rw [if_neg hr] at el
    rw [if_neg hr, if_neg hr]
    simp only [if_true, setcode_Size.f]
    rw [if_pos (by rw [toList_lst]; rfl), el]
    rfl
end Go.Proofs.Ytefiadhmcdfdoaa.Pure
