/- What the program's reader and writer of numbers and texts come to, in plain words (VarPlain). -/
import Derived.Test.YtefiadhmcdfdoaaPDx3
import Derived.Test.YtefiadhmcdfdoaaPDx4
import Derived.Test.YtefiadhmcdfdoaaVarRun
namespace Go.Proofs.Ytefiadhmcdfdoaa.PD
open Go.RowKit Go.Proofs.YtefiadhmcdfdoaaW.PrintWords Go.Proofs.YtefiadhmcdfdoaaW.PrintLast Go.Proofs.YtefiadhmcdfdoaaW.PrintMore Go.Proofs.Ytefiadhmcdfdoaa.VarPlain

theorem text_is (k : Nat) (s : ByteArray) (hs : s.size ≤ 140737488351232) (hk : 10 < k) : varint_Text.f k s = some (mkS (encT (lst s))) := by
  unfold varint_Text.f
  rw [if_pos (by omega), num_is k s.size (by omega) hk]
  have := enc_len_u64 (x := s.size) (by omega)
  simp only [Option.bind_some]
  rw [if_pos (by rw [size_mk]; omega), append_lst, lst_mk, size_lst]
  rfl

theorem raw_is (s : ByteArray) (e n : Int) (he : e = 0 ∨ lst s = []) (hn : 0 ≤ n) : varint_In_Raw.f s e n = some (mkS (rRaw (lst s) e n).1, mkS (rRaw (lst s) e n).2.1, (rRaw (lst s) e n).2.2) := by
  unfold varint_In_Raw.f rRaw
  have hm : mx n 0 = n := by unfold mx; rw [if_neg (by omega)]
  rw [hm]
  by_cases h : (s.size : Int) < n
  · have h1 : ((lst s).length : Int) < n := by rw [← size_lst]; exact h
    rw [if_pos h, if_pos h1, fail_is]
    simp only [Option.bind_some]
    have h2 : ¬ (rFail (lst s) e 2).2 = 0 := by
      unfold rFail
      by_cases h0 : e = 0
      · rw [if_pos h0, if_neg (by decide)]; decide
      · rw [if_neg h0]; exact h0
    rw [if_neg h2]; rfl
  · have h1 : ¬ ((lst s).length : Int) < n := by rw [← size_lst]; exact h
    rw [if_neg h, if_neg h1]
    by_cases h0 : e = 0
    · subst h0
      have h3 : n ≤ (s.size : Int) := by omega
      rw [if_pos rfl, if_pos rfl, if_pos hn, if_pos h3, extract_to, extract_from]
    · rw [if_neg h0, if_neg h0]; rfl
theorem rNum_left (l : List UInt8) (e : Int) (most : Nat) (h : e = 0 ∨ l = []) : (rNum l e most).2.2 = 0 ∨ (rNum l e most).2.1 = [] := by
  unfold rNum
  repeat' split
  all_goals first | exact .inl rfl | exact .inr rfl | (rcases h with h | h; exact absurd h ‹_›; exact .inr h)
theorem rRaw_left (l : List UInt8) (e n : Int) (h : e = 0 ∨ l = []) : (rRaw l e n).2.2 = 0 ∨ (rRaw l e n).2.1 = [] := by
  unfold rRaw rFail
  by_cases c : (l.length : Int) < n
  · rw [if_pos c]
    by_cases c1 : e = 0
    · rw [if_pos c1, if_neg (by decide)]; exact .inr rfl
    · rw [if_neg c1]; exact .inr (h.resolve_left c1)
  · rw [if_neg c]
    by_cases c1 : e = 0
    · rw [if_pos c1]; exact .inl rfl
    · rw [if_neg c1]; exact .inr (h.resolve_left c1)
theorem rText_left (l : List UInt8) (e most : Int) (h : e = 0 ∨ l = []) : (rText l e most).2.2 = 0 ∨ (rText l e most).2.1 = [] := rRaw_left _ _ _ (rNum_left _ _ _ h)
theorem text_most (most : Int) (hm : most ≤ 9223372036854775807) : IntKind.u64.wrap (mx most 0) = ((most.toNat : Nat) : Int) := by
  have h : mx most 0 = ((most.toNat : Nat) : Int) := by unfold mx; split <;> omega
  have h1 : ((most.toNat : Nat) : Int) < 18446744073709551616 := by omega
  rw [h]
  exact u64_in (Int.natCast_nonneg _) h1
theorem small_wrap {n : Nat} (h : n ≤ 9223372036854775807) : wrap64 (n : Int) = (n : Int) := by unfold wrap64; omega
theorem intext1 (k : Nat) (s : ByteArray) (e most : Int) (R : Nat × List UInt8 × Int) (hn : varint_In_Num.f k s e ((most.toNat : Nat) : Int) = some ((R.1 : Int), mkS R.2.1, R.2.2)) (hl : R.2.2 = 0 ∨ R.2.1 = []) (hm : IntKind.u64.wrap (mx most 0) = ((most.toNat : Nat) : Int)) (hw : wrap64 (R.1 : Int) = (R.1 : Int)) :
    varint_In_Text.f k s e most = some (mkS (rRaw R.2.1 R.2.2 (R.1 : Int)).1, mkS (rRaw R.2.1 R.2.2 (R.1 : Int)).2.1, (rRaw R.2.1 R.2.2 (R.1 : Int)).2.2) := by
  have hr := raw_is (mkS R.2.1) R.2.2 (R.1 : Int) (by rw [lst_mk]; exact hl) (Int.natCast_nonneg _)
  unfold varint_In_Text.f
  rw [hm, hn, Option.bind_some]
  rw [hw, hr, lst_mk, Option.bind_some]
theorem intext2 (s : ByteArray) (e most : Int) (hm : most ≤ 9223372036854775807) : (rNum (lst s) e most.toNat).1 ≤ 9223372036854775807 := by
  have h1 := (rNum_lt (lst s) e most.toNat).2.1
  have h2 : most.toNat ≤ 9223372036854775807 := by omega
  exact Nat.le_trans h1 h2
theorem intext_is (k : Nat) (s : ByteArray) (e most : Int) (he : e = 0 ∨ lst s = []) (hs : s.size ≤ 140737488351232) (hk : 3 * s.size < k) (hm : most ≤ 9223372036854775807) :
    varint_In_Text.f k s e most = some (mkS (rText (lst s) e most).1, mkS (rText (lst s) e most).2.1, (rText (lst s) e most).2.2) :=
  intext1 k s e most _ (innum_is k s e most.toNat hs hk) (rNum_left (lst s) e most.toNat he) (text_most most hm) (small_wrap (intext2 s e most hm))
end Go.Proofs.Ytefiadhmcdfdoaa.PD
