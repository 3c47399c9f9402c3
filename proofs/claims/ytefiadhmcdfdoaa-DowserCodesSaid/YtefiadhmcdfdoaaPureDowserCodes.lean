/- A set comes back of its own bytes, and of an answer's, alike: the pure statement of DowserCodes, for every list. -/
import Derived.Test.YtefiadhmcdfdoaaPDx5
import Derived.Test.YtefiadhmcdfdoaaRespPlain
import Derived.Test.YtefiadhmcdfdoaaSetDecOnly
namespace Go.Proofs.Ytefiadhmcdfdoaa.Pure
open Go.RowKit Go.Proofs.Ytefiadhmcdfdoaa.PD Go.Proofs.YtefiadhmcdfdoaaW.PrintWords Go.Proofs.YtefiadhmcdfdoaaW.PrintLast Go.Proofs.Ytefiadhmcdfdoaa.VarPlain Go.Proofs.Ytefiadhmcdfdoaa.SetPlain
theorem codes_num (k : Nat) (y : Nat) (rest : List UInt8) (most : Nat) (hy : y < 18446744073709551616) (h : y ≤ most) (hr : (enc y ++ rest).length ≤ 700) (hk : 2200 < k) : varint_In_Num.f k (mkS (enc y ++ rest)) 0 (most : Int) = some ((y : Int), mkS rest, 0) := by
  have hin := innum_is k (mkS (enc y ++ rest)) 0 most (by rw [size_mk]; omega) (by rw [size_mk]; omega)
  rw [lst_mk, rNum_enc _ _ _ hy h] at hin
  exact hin
theorem codes_parse (k : Nat) (hk : 4000 < k) (l : List Int) (hl : l.length ≤ 40) (hn : inR l) : request_Parse.f k (mkS (respB l)) = some (0, [l], ⟨#[]⟩, 0) := by
  have e0 := enc_len_u64 (x := 0) (by omega)
  have e1 := enc_len_u64 (x := 1) (by omega)
  have e2 := enc_len_u64 (x := l.length) (by omega)
  have e3 := encL_len l hn
  obtain ⟨k, rfl⟩ : ∃ m, k = m + 3 := ⟨k - 3, by omega⟩
  have hb : respB l = enc 0 ++ (enc 1 ++ (enc l.length ++ (encL l ++ enc 0))) := rfl
  have n0 := codes_num (k + 3) 0 (enc 1 ++ (enc l.length ++ (encL l ++ enc 0))) 255 (by omega) (by omega) (by simp only [List.length_append]; omega) (by omega)
  have n1 := codes_num (k + 2) 1 (enc l.length ++ (encL l ++ enc 0)) 2147483647 (by omega) (by omega) (by simp only [List.length_append]; omega) (by omega)
  have n2 := codes_num k l.length (encL l ++ enc 0) 2147483647 (by omega) (by omega) (by simp only [List.length_append]; omega) (by omega)
  rw [show ((255 : Nat) : Int) = 255 from rfl, ← hb, show ((0 : Nat) : Int) = 0 from rfl] at n0
  rw [show ((2147483647 : Nat) : Int) = 2147483647 from rfl, show ((1 : Nat) : Int) = 1 from rfl] at n1
  rw [show ((2147483647 : Nat) : Int) = 2147483647 from rfl] at n2
  have hw : wrap64 (0 : Int) = 0 := by unfold wrap64; omega
  unfold request_Parse.f
  simp only [varint_Of.f, Option.bind_some]
  rw [n0]
  simp only [Option.bind_some, err_is, if_true]
  rw [hw, request_Parse.j0, if_pos (show ((0 : Int) == 0) = true from by decide), n1]
  simp only [Option.bind_some]
  rw [if_neg (by decide), request_Parse.j1, request_Parse.l0, if_pos (by decide), n2]
  simp only [Option.bind_some]
  have hloop := parse_loop l hl hn (enc 0) (by omega) l.length k 0 (by omega) (by omega) (by omega)
  rw [List.take_zero, List.drop_zero] at hloop
  rw [hloop]
  obtain ⟨m, hm⟩ : ∃ m, k - l.length - 1 = m + 2 := ⟨k - l.length - 3, by omega⟩
  have hmk : 300 < m := by omega
  rw [hm, request_Parse.l0, if_neg (by decide), request_Parse.j4]
  have ht := intext_is m (mkS (enc 0)) 0 65536 (.inl rfl) (by rw [size_mk]; omega) (by rw [size_mk]; omega) (by omega)
  have he : rText (lst (mkS (enc 0))) 0 65536 = ([], [], 0) := by
    have := rText_enc [] [] 65536 (by simp) (by simp)
    unfold encT at this
    rw [lst_mk]
    simpa using this
  rw [he] at ht
  rw [ht]
  simp only [Option.bind_some, end_is, lst_mk, if_true]
  rfl
theorem rise_inR : ∀ (l : List Int) (last : Int), -1 ≤ last → Rise last l → inR l
  | [], _, _, _ => fun x hx => by simp at hx
  | y :: l, last, h0, hr => fun x hx => by
    unfold Rise at hr
    rcases List.mem_cons.1 hx with e | e
    · subst e; exact ⟨by omega, hr.2.1⟩
    · exact rise_inR l y (by omega) hr.2.2 x e
theorem DowserCodes : dowsertop_DowserCodes.Pure := by
  intro l0 _ _ _
  unfold dowsertop_DowserCodes.f
  have hl : (l0.take 40).length ≤ 40 := by rw [List.length_take]; omega
  generalize l0.take 40 = l at hl ⊢
  rw [enc_is 20000 l (by omega) (by omega)]
  simp only [Option.bind_some]
  by_cases hr : Rise (-1) l
  · have hn := rise_inR l (-1) (by omega) hr
    rw [if_pos hr, if_pos rfl, resp_is 20000 l hl hn (by omega)]
    simp only [Option.bind_some]
    rw [codes_parse 20000 (by omega) l hl hn]
    simp only [Option.bind_some]
    rw [dec_is 20000 l hr (by omega) (by omega)]
    simp only [Option.bind_some]
    simp
    exact fun x hx => hn x hx
  · rw [if_neg hr, if_neg (by decide), if_pos rfl]
end Go.Proofs.Ytefiadhmcdfdoaa.Pure
