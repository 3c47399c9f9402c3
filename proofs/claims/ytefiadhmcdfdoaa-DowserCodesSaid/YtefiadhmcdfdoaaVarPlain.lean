/- Plain facts about the encoding of numbers as groups of seven bits, and about reading them. -/
import Derived.Laws.BitsLemmas
import Derived.Laws.Strings
namespace Go.Proofs.Ytefiadhmcdfdoaa.VarPlain
open Go

/-! Texts as lists. -/
def mkS (l : List UInt8) : ByteArray := ⟨l.toArray⟩
def lst (s : ByteArray) : List UInt8 := s.data.toList
theorem lst_mk (l : List UInt8) : lst (mkS l) = l := rfl
theorem mk_lst (s : ByteArray) : mkS (lst s) = s := rfl
theorem size_lst (s : ByteArray) : s.size = (lst s).length := by unfold lst; rw [Array.length_toList]; rfl
theorem size_mk (l : List UInt8) : (mkS l).size = l.length := by rw [size_lst, lst_mk]
theorem toList_lst (s : ByteArray) : s.toList = lst s := ByteArray.toList_eq s
theorem lst_append (s t : ByteArray) : lst (s ++ t) = lst s ++ lst t := by unfold lst; rw [ByteArray.data_append, Array.toList_append]
theorem append_mk (a b : List UInt8) : mkS a ++ mkS b = mkS (a ++ b) := by
  rw [← mk_lst (mkS a ++ mkS b), lst_append, lst_mk, lst_mk]
theorem append_lst (s t : ByteArray) : s ++ t = mkS (lst s ++ lst t) := by rw [← lst_append, mk_lst]
theorem lst_extract (s : ByteArray) (a b : Nat) : lst (s.extract a b) = ((lst s).take b).drop a := by
  unfold lst
  rw [ByteArray.data_extract, Array.toList_extract, List.extract_eq_take_drop, List.drop_take]
theorem extract_to (s : ByteArray) (n : Nat) : s.extract 0 n = mkS ((lst s).take n) := by rw [← mk_lst (s.extract 0 n), lst_extract, List.drop_zero]
theorem extract_from (s : ByteArray) (n : Nat) : s.extract n s.size = mkS ((lst s).drop n) := by
  rw [← mk_lst (s.extract n s.size), lst_extract, List.take_of_length_le (by rw [size_lst]; exact Nat.le_refl _)]
theorem lst_inj {s t : ByteArray} (h : lst s = lst t) : s = t := by rw [← mk_lst s, h, mk_lst]
theorem lst_empty : lst (⟨#[]⟩ : ByteArray) = [] := rfl
theorem mk_nil : mkS [] = (⟨#[]⟩ : ByteArray) := rfl
theorem eq_mk (l m : List UInt8) : mkS l = mkS m ↔ l = m := ⟨fun h => by rw [← lst_mk l, h, lst_mk], fun h => by rw [h]⟩

/-! A number's bytes. -/
def enc (x : Nat) : List UInt8 := if h : x < 128 then [UInt8.ofNat x] else UInt8.ofNat (x % 128 + 128) :: enc (x / 128)
termination_by x
decreasing_by omega
theorem enc_small {x : Nat} (h : x < 128) : enc x = [UInt8.ofNat x] := by rw [enc, dif_pos h]
theorem enc_great {x : Nat} (h : 128 ≤ x) : enc x = UInt8.ofNat (x % 128 + 128) :: enc (x / 128) := by rw [enc, dif_neg (by omega)]
theorem enc_len_le (n : Nat) : ∀ x, x < 128 ^ (n + 1) → (enc x).length ≤ n + 1 := by
  induction n with
  | zero => intro x h; rw [enc_small (by omega)]; exact Nat.le_refl _
  | succ n ih =>
    intro x h
    by_cases hx : x < 128
    · rw [enc_small hx]; simp
    · rw [enc_great (by omega), List.length_cons]
      have : x / 128 < 128 ^ (n + 1) := by rw [Nat.pow_succ] at h; omega
      have := ih _ this
      omega
theorem enc_len_u64 {x : Nat} (h : x < 18446744073709551616) : (enc x).length ≤ 10 := enc_len_le 9 x (by omega)
theorem enc_len_pos (x : Nat) : 0 < (enc x).length := by
  by_cases hx : x < 128
  · rw [enc_small hx]; simp
  · rw [enc_great (by omega)]; simp
theorem enc_ne (x : Nat) : enc x ≠ [] := fun h => by have := enc_len_pos x; rw [h] at this; simp at this

/-- The number at the head of bytes, how many it has, the error's number: from the i-th byte on. -/
def scanL (i x : Nat) : List UInt8 → Nat × Nat × Nat
  | [] => (0, 0, 2)
  | b :: l => if (i = 9 ∧ 1 < b.toNat) ∨ (0 < i ∧ b.toNat = 0) then (0, 0, 3) else
      if b.toNat < 128 then (x + b.toNat % 128 * 2 ^ (7 * i), i + 1, 0) else scanL (i + 1) (x + b.toNat % 128 * 2 ^ (7 * i)) l

theorem scan_enc (rest : List UInt8) : ∀ (y i x : Nat), i ≤ 9 → y * 2 ^ (7 * i) < 18446744073709551616 → (0 < i → 0 < y) →
    scanL i x (enc y ++ rest) = (x + y * 2 ^ (7 * i), i + (enc y).length, 0) := by
  intro y
  induction y using Nat.strongRecOn with
  | _ y ih =>
    intro i x hi hy h0
    by_cases hs : y < 128
    · rw [enc_small hs, List.singleton_append, scanL]
      have hb : (UInt8.ofNat y).toNat = y := by rw [UInt8.toNat_ofNat']; omega
      rw [hb, if_neg, if_pos hs, Nat.mod_eq_of_lt hs]
      · rfl
      · rintro (⟨rfl, h⟩ | ⟨h, h'⟩)
        · omega
        · have := h0 h; omega
    · rw [enc_great (by omega), List.cons_append, scanL]
      have hb : (UInt8.ofNat (y % 128 + 128)).toNat = y % 128 + 128 := by rw [UInt8.toNat_ofNat']; omega
      have hi9 : i < 9 := by
        rcases Nat.lt_or_ge i 9 with h | h
        · exact h
        · obtain rfl : i = 9 := by omega
          omega
      have e1 : (y % 128 + 128) % 128 = y % 128 := by omega
      have e2 : 2 ^ (7 * (i + 1)) = 128 * 2 ^ (7 * i) := by rw [Nat.mul_add, Nat.pow_add]; omega
      have e3 : y / 128 * 2 ^ (7 * (i + 1)) = (y / 128 * 128) * 2 ^ (7 * i) := by rw [e2, Nat.mul_assoc]
      have e4 : (y / 128 * 128) * 2 ^ (7 * i) ≤ y * 2 ^ (7 * i) := Nat.mul_le_mul_right _ (by omega)
      rw [hb, if_neg (by omega), if_neg (by omega), e1, ih (y / 128) (by omega) (i + 1) _ (by omega) (by omega) (by omega), List.length_cons]
      have e5 : y * 2 ^ (7 * i) = y % 128 * 2 ^ (7 * i) + (y / 128 * 128) * 2 ^ (7 * i) := by rw [← Nat.add_mul]; congr 1; omega
      rw [e3, e5, Nat.add_assoc]
      congr 2
      omega
theorem scan_num (y : Nat) (rest : List UInt8) (h : y < 18446744073709551616) : scanL 0 0 (enc y ++ rest) = (y, (enc y).length, 0) := by
  rw [scan_enc rest y 0 0 (by omega) (by omega) (by omega)]
  simp
/-- No number's bytes begin with another one's. -/
theorem enc_begins {x y : Nat} (hx : x < 18446744073709551616) (hy : y < 18446744073709551616) {l m : List UInt8} (h : enc x ++ l = enc y ++ m) : x = y ∧ l = m := by
  have h1 := scan_num x l hx
  rw [h, scan_num y m hy] at h1
  have e : y = x := by injection h1
  subst e
  exact ⟨rfl, List.append_cancel_left h⟩
theorem enc_inj {x y : Nat} (hx : x < 18446744073709551616) (hy : y < 18446744073709551616) (h : enc x = enc y) : x = y :=
  (enc_begins (l := []) (m := []) hx hy (by rw [h])).1

/-- What scanL finds: how many bytes, how great a number. -/
theorem scanL_le : ∀ (l : List UInt8) (i x : Nat), i ≤ 9 → x < 2 ^ (7 * i) → (scanL i x l).1 < 18446744073709551616 ∧ (scanL i x l).2.1 ≤ i + l.length ∧ (scanL i x l).2.2 ≤ 3 := by
  intro l
  induction l with
  | nil => intro i x hi hx; unfold scanL; simp
  | cons b l ih =>
    intro i x hi hx
    have hb := b.toNat_lt
    unfold scanL
    by_cases c : (i = 9 ∧ 1 < b.toNat) ∨ (0 < i ∧ b.toNat = 0)
    · rw [if_pos c]; simp
    · rw [if_neg c]
      have e2 : 2 ^ (7 * (i + 1)) = 128 * 2 ^ (7 * i) := by rw [Nat.mul_add, Nat.pow_add]; omega
      have hm : b.toNat % 128 * 2 ^ (7 * i) ≤ 127 * 2 ^ (7 * i) := Nat.mul_le_mul_right _ (by omega)
      by_cases d : b.toNat < 128
      · rw [if_pos d]
        refine ⟨?_, by simp only [List.length_cons]; omega, Nat.zero_le _⟩
        show x + b.toNat % 128 * 2 ^ (7 * i) < _
        rcases Nat.lt_or_ge i 9 with h9 | h9
        · have : 2 ^ (7 * i) ≤ 2 ^ 56 := Nat.pow_le_pow_right (by omega) (by omega)
          omega
        · obtain rfl : i = 9 := by omega
          have : b.toNat ≤ 1 := by omega
          have : b.toNat % 128 ≤ 1 := by omega
          have : b.toNat % 128 * 2 ^ (7 * 9) ≤ 1 * 2 ^ (7 * 9) := Nat.mul_le_mul_right _ this
          omega
      · rw [if_neg d]
        have h9 : i < 9 := by omega
        have := ih (i + 1) (x + b.toNat % 128 * 2 ^ (7 * i)) (by omega) (by omega)
        simp only [List.length_cons]
        omega
theorem scanL_pos : ∀ (l : List UInt8) (i x : Nat), (scanL i x l).2.2 = 0 → i < (scanL i x l).2.1 := by
  intro l
  induction l with
  | nil => intro i x h; unfold scanL at h; simp at h
  | cons b l ih =>
    intro i x h
    unfold scanL at h ⊢
    split at h
    · simp at h
    · rename_i c
      rw [if_neg c]
      split at h
      · rename_i d; rw [if_pos d]; exact Nat.lt_succ_self i
      · rename_i d
        rw [if_neg d]
        have := ih _ _ h
        omega
/-- What is read is what would be written: the bytes at the head are the number's. -/
theorem scanL_enc : ∀ (l : List UInt8) (i x : Nat), i ≤ 9 → x < 2 ^ (7 * i) → (scanL i x l).2.2 = 0 →
    ∃ y rest, l = enc y ++ rest ∧ (scanL i x l).1 = x + y * 2 ^ (7 * i) ∧ (scanL i x l).2.1 = i + (enc y).length ∧ (0 < i → 0 < y) := by
  intro l
  induction l with
  | nil => intro i x hi hx h; unfold scanL at h; simp at h
  | cons b l ih =>
    intro i x hi hx h
    have hb := b.toNat_lt
    unfold scanL at h ⊢
    by_cases c : (i = 9 ∧ 1 < b.toNat) ∨ (0 < i ∧ b.toNat = 0)
    · rw [if_pos c] at h; simp at h
    · rw [if_neg c] at h ⊢
      by_cases d : b.toNat < 128
      · rw [if_pos d] at h ⊢
        refine ⟨b.toNat, l, ?_, ?_, ?_, ?_⟩
        · rw [enc_small d, UInt8.ofNat_toNat]; rfl
        · show _ = _; rw [Nat.mod_eq_of_lt d]
        · rw [enc_small d]; rfl
        · intro; omega
      · rw [if_neg d] at h ⊢
        have h9 : i < 9 := by omega
        have e2 : 2 ^ (7 * (i + 1)) = 128 * 2 ^ (7 * i) := by rw [Nat.mul_add, Nat.pow_add]; omega
        have hm : b.toNat % 128 * 2 ^ (7 * i) ≤ 127 * 2 ^ (7 * i) := Nat.mul_le_mul_right _ (by omega)
        obtain ⟨y, rest, h1, h2, h3, h4⟩ := ih (i + 1) _ (by omega) (by omega) h
        have y0 := h4 (by omega)
        refine ⟨b.toNat % 128 + y * 128, rest, ?_, ?_, ?_, ?_⟩
        · rw [enc_great (by omega), h1]
          have a1 : (b.toNat % 128 + y * 128) % 128 + 128 = b.toNat := by omega
          have a2 : (b.toNat % 128 + y * 128) / 128 = y := by omega
          rw [a1, a2, UInt8.ofNat_toNat]; rfl
        · rw [h2, e2, Nat.add_mul, Nat.mul_assoc, Nat.add_assoc]
        · rw [h3, enc_great (x := b.toNat % 128 + y * 128) (by omega), List.length_cons]
          have a2 : (b.toNat % 128 + y * 128) / 128 = y := by omega
          rw [a2]; omega
        · intro; omega
theorem scanL_head (l : List UInt8) (h : (scanL 0 0 l).2.2 = 0) : ∃ rest, l = enc (scanL 0 0 l).1 ++ rest ∧ (scanL 0 0 l).2.1 = (enc (scanL 0 0 l).1).length := by
  obtain ⟨y, rest, h1, h2, h3, _⟩ := scanL_enc l 0 0 (by omega) (by omega) h
  have : (scanL 0 0 l).1 = y := by rw [h2]; simp
  rw [this]
  exact ⟨rest, h1, by rw [h3]; omega⟩

/-! Reading: what is left, and the first error. -/
def rNum (l : List UInt8) (e : Int) (most : Nat) : Nat × List UInt8 × Int :=
  if e = 0 then
    if (scanL 0 0 l).2.2 = 0 then (if most < (scanL 0 0 l).1 then (0, [], 4) else ((scanL 0 0 l).1, l.drop (scanL 0 0 l).2.1, 0))
    else (0, [], ((scanL 0 0 l).2.2 : Int))
  else (0, l, e)
def rFail (l : List UInt8) (e c : Int) : List UInt8 × Int := if e = 0 then (if c = 0 then (l, e) else ([], c)) else (l, e)
def rRaw (l : List UInt8) (e n : Int) : List UInt8 × List UInt8 × Int :=
  if (l.length : Int) < n then ([], rFail l e 2) else if e = 0 then (l.take n.toNat, l.drop n.toNat, 0) else ([], l, e)
def rText (l : List UInt8) (e most : Int) : List UInt8 × List UInt8 × Int :=
  rRaw (rNum l e most.toNat).2.1 (rNum l e most.toNat).2.2 ((rNum l e most.toNat).1 : Int)
def encT (l : List UInt8) : List UInt8 := enc l.length ++ l
theorem rNum_enc (y : Nat) (rest : List UInt8) (most : Nat) (hy : y < 18446744073709551616) (h : y ≤ most) : rNum (enc y ++ rest) 0 most = (y, rest, 0) := by
  unfold rNum
  rw [if_pos rfl, scan_num y rest hy]
  simp only [if_true]
  rw [if_neg (by omega), List.drop_left]
theorem rNum_big (y : Nat) (rest : List UInt8) (most : Nat) (hy : y < 18446744073709551616) (h : most < y) : rNum (enc y ++ rest) 0 most = (0, [], 4) := by
  unfold rNum
  rw [if_pos rfl, scan_num y rest hy]
  simp only [if_true]
  rw [if_pos h]
theorem rNum_lt (l : List UInt8) (e : Int) (most : Nat) : (rNum l e most).1 < 18446744073709551616 ∧ (rNum l e most).1 ≤ most ∧ (rNum l e most).2.1.length ≤ l.length := by
  unfold rNum
  have := scanL_le l 0 0 (by omega) (by omega)
  split
  · split
    · split
      · simp
      · simp only [List.length_drop]; omega
    · simp
  · simp
theorem rRaw_len (l : List UInt8) (e n : Int) : (rRaw l e n).2.1.length ≤ l.length := by
  unfold rRaw rFail
  repeat' split
  all_goals simp
theorem rText_enc (t rest : List UInt8) (most : Int) (ht : t.length < 18446744073709551616) (h : (t.length : Int) ≤ most) : rText (encT t ++ rest) 0 most = (t, rest, 0) := by
  unfold rText encT
  rw [List.append_assoc, rNum_enc _ _ _ ht (by omega)]
  simp only
  unfold rRaw
  rw [if_neg (by rw [List.length_append]; omega), if_pos rfl, Int.toNat_natCast, List.take_left, List.drop_left]
theorem rText_big (t rest : List UInt8) (most : Int) (ht : t.length < 18446744073709551616) (h0 : 0 ≤ most) (h : most < (t.length : Int)) : rText (encT t ++ rest) 0 most = ([], [], 4) := by
  unfold rText encT
  rw [List.append_assoc, rNum_big _ _ _ ht (by omega)]
  simp only
  unfold rRaw
  rw [if_neg (by simp), if_neg (by omega)]
theorem encT_begins {t u : List UInt8} (ht : t.length < 18446744073709551616) (hu : u.length < 18446744073709551616) {l m : List UInt8} (h : encT t ++ l = encT u ++ m) : t = u ∧ l = m := by
  have h1 := rText_enc t l (t.length : Int) ht (Int.le_refl _)
  unfold encT at h
  rw [List.append_assoc, List.append_assoc] at h
  obtain ⟨e, h2⟩ := enc_begins ht hu h
  have h3 : t = u := by
    have := congrArg (List.take t.length) h2
    rw [List.take_left, e, List.take_left] at this
    exact this
  subst h3
  exact ⟨rfl, List.append_cancel_left h2⟩

/-! As whole numbers. -/
theorem u64_in {n : Int} (h0 : 0 ≤ n) (h1 : n < 18446744073709551616) : IntKind.u64.wrap n = n := by
  simp only [IntKind.wrap, IntKind.bits, IntKind.signed, Bool.false_and, Bool.false_eq_true, if_false]; omega
theorem or128 (b : Nat) (h : b < 256) : bits .or .u8 (b : Int) 128 = ((b % 128 + 128 : Nat) : Int) := by
  have hh := (bits_nat .u8 8 (by decide) wraps_u8 b 128 h (by decide)).2
  rw [show ((128 : Nat) : Int) = 128 from rfl] at hh
  rw [hh]
  congr 1
  have : ∀ b, b < 256 → b ||| 128 = b % 128 + 128 := by decide +kernel
  exact this b h
theorem and127 (b : Nat) (h : b < 256) : bits .and .u8 (b : Int) 127 = ((b % 128 : Nat) : Int) := by
  have hh := (bits_nat .u8 8 (by decide) wraps_u8 b 127 h (by decide)).1
  rw [show ((127 : Nat) : Int) = 127 from rfl] at hh
  rw [hh]
  congr 1
  have : ∀ b, b < 256 → b &&& 127 = b % 128 := by decide +kernel
  exact this b h
theorem or64 (x y i : Nat) (hx : x < 2 ^ i) (h : x + y * 2 ^ i < 18446744073709551616) : bits .or .u64 (x : Int) ((y * 2 ^ i : Nat) : Int) = ((x + y * 2 ^ i : Nat) : Int) := by
  have w64 : ∀ n : Int, 0 ≤ n → n < 2 ^ 64 → IntKind.u64.wrap n = n := fun n h0 h1 => u64_in h0 (by omega)
  rw [(bits_nat .u64 64 (by decide) w64 x (y * 2 ^ i) (by omega) (by omega)).2]
  congr 1
  rw [Nat.or_comm, Nat.mul_comm, ← Nat.two_pow_add_eq_or_of_lt hx y]
  omega
end Go.Proofs.Ytefiadhmcdfdoaa.VarPlain
