/- Two texts, one behind the other, come back, in their order, are told apart, and one that is longer than may be is told: the pure statement of VarintTexts, for every two texts and every bound. -/
import Derived.Test.YtfkgidiedpkbdaaPAx9
import Derived.Test.YtfkgidiedpkbdaaVarRun
import Derived.Test.YtfkgidiedpkbdaaVarintRef
import Derived.Test.YtfkgidiedpkbdaaVarintCut
namespace Go.Proofs.Ytfkgidiedpkbdaa.Pure
open Go.RowKit Go.Proofs.Ytfkgidiedpkbdaa.PA Go.Proofs.YtfkgidiedpkbdaaW.PrintWords Go.Proofs.YtfkgidiedpkbdaaW.PrintLast Go.Proofs.Ytfkgidiedpkbdaa.VarPlain
theorem two_texts {a b : List UInt8} (ha : a.length ≤ 200) (hb : b.length ≤ 200) : encT a ++ encT b = encT b ++ encT a ↔ a = b := by
  constructor
  · intro h; exact (encT_begins (by omega) (by omega) h).1
  · intro h; rw [h]
theorem encT_len (a : List UInt8) (ha : a.length ≤ 200) : (encT a).length ≤ 210 := by
  unfold encT
  have := enc_len_u64 (x := a.length) (by omega)
  rw [List.length_append]; omega
theorem texts_j (k : Nat) (a : List UInt8) (most : Int) (ha : a.length ≤ 200) (hk : 1000 < k) (hm : most ≤ 9223372036854775807) :
    dowserlaw01_VarintTexts.j0 k (mkS a) most false = some true := by
  obtain ⟨k, rfl⟩ : ∃ m, k = m + 1 := ⟨k - 1, by omega⟩
  simp only [dowserlaw01_VarintTexts.j0]
  have hs : (mkS a).size ≤ 140737488351232 := by rw [size_mk]; omega
  have hl := encT_len a ha
  have hs2 : (mkS (encT a)).size ≤ 140737488351232 := by rw [size_mk]; omega
  have hk2 : 3 * (mkS (encT a)).size < k := by rw [size_mk]; omega
  rw [if_neg (by simp), text_is k _ hs (by omega), lst_mk]
  simp only [Option.bind_some, varint_Of.f]
  rw [intext_is k _ 0 most (.inl rfl) hs2 hk2 hm, lst_mk]
  simp only [Option.bind_some]
  have hmx : mx most 0 = ((most.toNat : Nat) : Int) := by unfold mx; split <;> omega
  have hT : rText (encT a) 0 most = rText (encT a ++ []) 0 ((most.toNat : Nat) : Int) := by
    rw [List.append_nil]
    unfold rText
    rw [Int.toNat_natCast]
  rw [hmx, hT]
  by_cases h : most.toNat < a.length
  · have h1 : ((mkS a).size : Int) > ((most.toNat : Nat) : Int) := by rw [size_mk]; omega
    rw [if_pos h1, rText_big a [] _ (by omega) (Int.natCast_nonneg _) (by omega)]
    have h2 : (mkS []).toList = [] := by rw [toList_lst]; rfl
    rw [if_pos h2, err_is]
    rfl
  · have h1 : ¬ ((mkS a).size : Int) > ((most.toNat : Nat) : Int) := by rw [size_mk]; omega
    rw [if_neg h1, rText_enc a [] _ (by omega) (by omega)]
    rw [if_pos rfl, err_is]
    rfl
theorem VarintTexts : dowserlaw01_VarintTexts.Pure := by
  intro a0 a1 a2 hs0 hs1 hwf
  refine ⟨5000, ?_⟩
  have hm : a2 ≤ 9223372036854775807 := by
    have := of_decide_eq_true ((Bool.and_eq_true _ _).mp hwf).2
    exact this
  have c0 := cut_is a0 200
  have c1 := cut_is a1 200
  have ha : ((lst a0).take 200).length ≤ 200 := by rw [List.length_take]; omega
  have hb : ((lst a1).take 200).length ≤ 200 := by rw [List.length_take]; omega
  rw [show ((200 : Nat) : Int) = 200 from rfl] at c0 c1
  generalize (lst a0).take 200 = a at c0 ha
  generalize (lst a1).take 200 = b at c1 hb
  have la := encT_len a ha
  have lb := encT_len b hb
  have sa : (mkS a).size ≤ 140737488351232 := by rw [size_mk]; omega
  have sb : (mkS b).size ≤ 140737488351232 := by rw [size_mk]; omega
  have ta := text_is 5000 (mkS a) sa (by omega)
  have tb := text_is 5000 (mkS b) sb (by omega)
  have ra := reftext_is 5000 (mkS a) sa (by omega)
  rw [lst_mk] at ta tb ra
  have sab : (mkS (encT a)).size + (mkS (encT b)).size ≤ 9223372036854775807 := by rw [size_mk, size_mk]; omega
  have sba : (mkS (encT b)).size + (mkS (encT a)).size ≤ 9223372036854775807 := by rw [size_mk, size_mk]; omega
  have i1 := intext_is 5000 (mkS (encT a ++ encT b)) 0 200 (.inl rfl) (by rw [size_mk, List.length_append]; omega) (by rw [size_mk, List.length_append]; omega) (by omega)
  rw [lst_mk, rText_enc a (encT b) 200 (by omega) (by omega)] at i1
  have i2 := intext_is 5000 (mkS (encT b)) 0 200 (.inl rfl) (by rw [size_mk]; omega) (by rw [size_mk]; omega) (by omega)
  have hn := rText_enc b [] 200 (by omega) (by omega)
  rw [List.append_nil] at hn
  rw [lst_mk, hn] at i2
  unfold dowserlaw01_VarintTexts.f
  rw [awake01_is 5000 (by omega)]
  simp only [Option.bind_some, if_true]
  rw [c0]; simp only [Option.bind_some]
  rw [c1]; simp only [Option.bind_some]
  rw [ta]; simp only [Option.bind_some]
  rw [tb]; simp only [Option.bind_some]
  rw [if_pos sab]
  simp only [varint_Of.f, Option.bind_some]
  rw [append_mk, i1]; simp only [Option.bind_some]
  rw [i2]; simp only [Option.bind_some, if_true]
  rw [end_is]; simp only [Option.bind_some]
  rw [if_pos (by rw [lst_mk]; rfl), ra]; simp only [Option.bind_some, if_true]
  rw [if_pos sba]
  have e : (((mkS (encT a ++ encT b)).toList == (mkS (encT b) ++ mkS (encT a)).toList) != ((mkS a).toList == (mkS b).toList)) = false := by
    rw [append_mk, toList_lst, toList_lst, toList_lst, toList_lst, lst_mk, lst_mk, lst_mk, lst_mk, bne_eq_false_iff_eq, Bool.eq_iff_iff, beq_iff_eq, beq_iff_eq]
    exact two_texts ha hb
  rw [e]
  exact texts_j 5000 a a2 ha (by omega) hm
end Go.Proofs.Ytfkgidiedpkbdaa.Pure
