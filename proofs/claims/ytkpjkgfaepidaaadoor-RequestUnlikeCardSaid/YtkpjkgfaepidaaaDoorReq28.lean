-- own texts, joined: VarPlain.lean Tools.lean VarRun.lean VarTxt.lean VarRefNum.lean VarRefTxt.lean VarRefHead.lean VarHeads.lean ReqPlain.lean ReqRef.lean RespPlain28.lean RespRef28.lean Cut01.lean AnsPlain.lean
import Derived.Test.YtkpjkgfaepidaaaDoorPCx1
import Derived.Test.YtkpjkgfaepidaaaDoorPCx10
import Derived.Test.YtkpjkgfaepidaaaDoorPCx11
import Derived.Test.YtkpjkgfaepidaaaDoorPCx12
import Derived.Test.YtkpjkgfaepidaaaDoorPCx13
import Derived.Test.YtkpjkgfaepidaaaDoorPCx15
import Derived.Test.YtkpjkgfaepidaaaDoorPCx16
import Derived.Test.YtkpjkgfaepidaaaDoorPCx17
import Derived.Test.YtkpjkgfaepidaaaDoorPCx19
import Derived.Test.YtkpjkgfaepidaaaDoorPCx2
import Derived.Test.YtkpjkgfaepidaaaDoorPCx20
import Derived.Test.YtkpjkgfaepidaaaDoorPCx21
import Derived.Test.YtkpjkgfaepidaaaDoorPCx22
import Derived.Test.YtkpjkgfaepidaaaDoorPCx24
import Derived.Test.YtkpjkgfaepidaaaDoorPCx26
import Derived.Test.YtkpjkgfaepidaaaDoorPCx3
import Derived.Test.YtkpjkgfaepidaaaDoorPCx4
import Derived.Test.YtkpjkgfaepidaaaDoorPCx5
import Derived.Test.YtkpjkgfaepidaaaDoorPCx6
import Derived.Test.YtkpjkgfaepidaaaDoorPCx7
import Derived.Test.YtkpjkgfaepidaaaDoorPCx8
import Derived.Test.YtkpjkgfaepidaaaDoorPCx9
import Derived.Test.YtkpjkgfaepidaaaDoorGlob
import Derived.Laws.BitsLemmas
import Derived.Laws.Strings
import Derived.Test.YtkpjkgfaepidaaaDoorWMore
/- Plain facts about the encoding of numbers as groups of seven bits, and about reading them. -/
namespace Go.Proofs.YtkpjkgfaepidaaaDoor.VarPlain
open Go

/-! Texts as lists. -/
def mkS (l : List UInt8) : ByteArray := ⟨l.toArray⟩
def lst (s : ByteArray) : List UInt8 := s.data.toList
theorem lst_mk (l : List UInt8) : lst (mkS l) = l := rfl
theorem mk_lst (s : ByteArray) : mkS (lst s) = s := rfl
theorem size_lst (s : ByteArray) : s.size = (lst s).length := by unfold lst; rw [Array.length_toList]; rfl
theorem size_mk (l : List UInt8) : (mkS l).size = l.length := by rw [size_lst, lst_mk]
theorem toList_lst (s : ByteArray) : s.toList = lst s := ByteArray.toList_eq s
theorem lst_append (s t : ByteArray) : lst (s ++ t) = lst s ++ lst t := by unfold lst; rw [ByteArray.data_append, Array.toList_append]
theorem append_mk (a b : List UInt8) : mkS a ++ mkS b = mkS (a ++ b) := by
  rw [← mk_lst (mkS a ++ mkS b), lst_append, lst_mk, lst_mk]
theorem append_lst (s t : ByteArray) : s ++ t = mkS (lst s ++ lst t) := by rw [← lst_append, mk_lst]
theorem lst_extract (s : ByteArray) (a b : Nat) : lst (s.extract a b) = ((lst s).take b).drop a := by
  unfold lst
  rw [ByteArray.data_extract, Array.toList_extract, List.extract_eq_take_drop, List.drop_take]
theorem extract_to (s : ByteArray) (n : Nat) : s.extract 0 n = mkS ((lst s).take n) := by rw [← mk_lst (s.extract 0 n), lst_extract, List.drop_zero]
theorem extract_from (s : ByteArray) (n : Nat) : s.extract n s.size = mkS ((lst s).drop n) := by
  rw [← mk_lst (s.extract n s.size), lst_extract, List.take_of_length_le (by rw [size_lst]; exact Nat.le_refl _)]
theorem lst_inj {s t : ByteArray} (h : lst s = lst t) : s = t := by rw [← mk_lst s, h, mk_lst]
theorem eq_mk (l m : List UInt8) : mkS l = mkS m ↔ l = m := ⟨fun h => by rw [← lst_mk l, h, lst_mk], fun h => by rw [h]⟩

/-! A number's bytes. -/
def enc (x : Nat) : List UInt8 := if h : x < 128 then [UInt8.ofNat x] else UInt8.ofNat (x % 128 + 128) :: enc (x / 128)
termination_by x
decreasing_by omega
theorem enc_small {x : Nat} (h : x < 128) : enc x = [UInt8.ofNat x] := by rw [enc, dif_pos h]
theorem enc_great {x : Nat} (h : 128 ≤ x) : enc x = UInt8.ofNat (x % 128 + 128) :: enc (x / 128) := by rw [enc, dif_neg (by omega)]
theorem enc_len_le (n : Nat) : ∀ x, x < 128 ^ (n + 1) → (enc x).length ≤ n + 1 := by
  induction n with
  | zero => intro x h; rw [enc_small (by omega)]; exact Nat.le_refl _
  | succ n ih =>
    intro x h
    by_cases hx : x < 128
    · rw [enc_small hx]; simp
    · rw [enc_great (by omega), List.length_cons]
      have : x / 128 < 128 ^ (n + 1) := by rw [Nat.pow_succ] at h; omega
      have := ih _ this
      omega
theorem enc_len_u64 {x : Nat} (h : x < 18446744073709551616) : (enc x).length ≤ 10 := enc_len_le 9 x (by omega)
theorem enc_len_pos (x : Nat) : 0 < (enc x).length := by
  by_cases hx : x < 128
  · rw [enc_small hx]; simp
  · rw [enc_great (by omega)]; simp
/-- The number at the head of bytes, how many it has, the error's number: from the i-th byte on. -/
def scanL (i x : Nat) : List UInt8 → Nat × Nat × Nat
  | [] => (0, 0, 2)
  | b :: l => if (i = 9 ∧ 1 < b.toNat) ∨ (0 < i ∧ b.toNat = 0) then (0, 0, 3) else
      if b.toNat < 128 then (x + b.toNat % 128 * 2 ^ (7 * i), i + 1, 0) else scanL (i + 1) (x + b.toNat % 128 * 2 ^ (7 * i)) l

theorem scan_enc (rest : List UInt8) : ∀ (y i x : Nat), i ≤ 9 → y * 2 ^ (7 * i) < 18446744073709551616 → (0 < i → 0 < y) →
    scanL i x (enc y ++ rest) = (x + y * 2 ^ (7 * i), i + (enc y).length, 0) := by
  intro y
  induction y using Nat.strongRecOn with
  | _ y ih =>
    intro i x hi hy h0
    by_cases hs : y < 128
    · rw [enc_small hs, List.singleton_append, scanL]
      have hb : (UInt8.ofNat y).toNat = y := by rw [UInt8.toNat_ofNat']; omega
      rw [hb, if_neg, if_pos hs, Nat.mod_eq_of_lt hs]
      · rfl
      · rintro (⟨rfl, h⟩ | ⟨h, h'⟩)
        · omega
        · have := h0 h; omega
    · rw [enc_great (by omega), List.cons_append, scanL]
      have hb : (UInt8.ofNat (y % 128 + 128)).toNat = y % 128 + 128 := by rw [UInt8.toNat_ofNat']; omega
      have hi9 : i < 9 := by
        rcases Nat.lt_or_ge i 9 with h | h
        · exact h
        · obtain rfl : i = 9 := by omega
          omega
      have e1 : (y % 128 + 128) % 128 = y % 128 := by omega
      have e2 : 2 ^ (7 * (i + 1)) = 128 * 2 ^ (7 * i) := by rw [Nat.mul_add, Nat.pow_add]; omega
      have e3 : y / 128 * 2 ^ (7 * (i + 1)) = (y / 128 * 128) * 2 ^ (7 * i) := by rw [e2, Nat.mul_assoc]
      have e4 : (y / 128 * 128) * 2 ^ (7 * i) ≤ y * 2 ^ (7 * i) := Nat.mul_le_mul_right _ (by omega)
      rw [hb, if_neg (by omega), if_neg (by omega), e1, ih (y / 128) (by omega) (i + 1) _ (by omega) (by omega) (by omega), List.length_cons]
      have e5 : y * 2 ^ (7 * i) = y % 128 * 2 ^ (7 * i) + (y / 128 * 128) * 2 ^ (7 * i) := by rw [← Nat.add_mul]; congr 1; omega
      rw [e3, e5, Nat.add_assoc]
      congr 2
      omega
theorem scan_num (y : Nat) (rest : List UInt8) (h : y < 18446744073709551616) : scanL 0 0 (enc y ++ rest) = (y, (enc y).length, 0) := by
  rw [scan_enc rest y 0 0 (by omega) (by omega) (by omega)]
  simp
/-- What scanL finds: how many bytes, how great a number. -/
theorem scanL_le : ∀ (l : List UInt8) (i x : Nat), i ≤ 9 → x < 2 ^ (7 * i) → (scanL i x l).1 < 18446744073709551616 ∧ (scanL i x l).2.1 ≤ i + l.length ∧ (scanL i x l).2.2 ≤ 3 := by
  intro l
  induction l with
  | nil => intro i x hi hx; unfold scanL; simp
  | cons b l ih =>
    intro i x hi hx
    have hb := b.toNat_lt
    unfold scanL
    by_cases c : (i = 9 ∧ 1 < b.toNat) ∨ (0 < i ∧ b.toNat = 0)
    · rw [if_pos c]; simp
    · rw [if_neg c]
      have e2 : 2 ^ (7 * (i + 1)) = 128 * 2 ^ (7 * i) := by rw [Nat.mul_add, Nat.pow_add]; omega
      have hm : b.toNat % 128 * 2 ^ (7 * i) ≤ 127 * 2 ^ (7 * i) := Nat.mul_le_mul_right _ (by omega)
      by_cases d : b.toNat < 128
      · rw [if_pos d]
        refine ⟨?_, by simp only [List.length_cons]; omega, Nat.zero_le _⟩
        show x + b.toNat % 128 * 2 ^ (7 * i) < _
        rcases Nat.lt_or_ge i 9 with h9 | h9
        · have : 2 ^ (7 * i) ≤ 2 ^ 56 := Nat.pow_le_pow_right (by omega) (by omega)
          omega
        · obtain rfl : i = 9 := by omega
          have : b.toNat ≤ 1 := by omega
          have : b.toNat % 128 ≤ 1 := by omega
          have : b.toNat % 128 * 2 ^ (7 * 9) ≤ 1 * 2 ^ (7 * 9) := Nat.mul_le_mul_right _ this
          omega
      · rw [if_neg d]
        have h9 : i < 9 := by omega
        have := ih (i + 1) (x + b.toNat % 128 * 2 ^ (7 * i)) (by omega) (by omega)
        simp only [List.length_cons]
        omega
/-- What is read is what would be written: the bytes at the head are the number's. -/
theorem scanL_enc : ∀ (l : List UInt8) (i x : Nat), i ≤ 9 → x < 2 ^ (7 * i) → (scanL i x l).2.2 = 0 →
    ∃ y rest, l = enc y ++ rest ∧ (scanL i x l).1 = x + y * 2 ^ (7 * i) ∧ (scanL i x l).2.1 = i + (enc y).length ∧ (0 < i → 0 < y) := by
  intro l
  induction l with
  | nil => intro i x hi hx h; unfold scanL at h; simp at h
  | cons b l ih =>
    intro i x hi hx h
    have hb := b.toNat_lt
    unfold scanL at h ⊢
    by_cases c : (i = 9 ∧ 1 < b.toNat) ∨ (0 < i ∧ b.toNat = 0)
    · rw [if_pos c] at h; simp at h
    · rw [if_neg c] at h ⊢
      by_cases d : b.toNat < 128
      · rw [if_pos d] at h ⊢
        refine ⟨b.toNat, l, ?_, ?_, ?_, ?_⟩
        · rw [enc_small d, UInt8.ofNat_toNat]; rfl
        · show _ = _; rw [Nat.mod_eq_of_lt d]
        · rw [enc_small d]; rfl
        · intro; omega
      · rw [if_neg d] at h ⊢
        have h9 : i < 9 := by omega
        have e2 : 2 ^ (7 * (i + 1)) = 128 * 2 ^ (7 * i) := by rw [Nat.mul_add, Nat.pow_add]; omega
        have hm : b.toNat % 128 * 2 ^ (7 * i) ≤ 127 * 2 ^ (7 * i) := Nat.mul_le_mul_right _ (by omega)
        obtain ⟨y, rest, h1, h2, h3, h4⟩ := ih (i + 1) _ (by omega) (by omega) h
        have y0 := h4 (by omega)
        refine ⟨b.toNat % 128 + y * 128, rest, ?_, ?_, ?_, ?_⟩
        · rw [enc_great (by omega), h1]
          have a1 : (b.toNat % 128 + y * 128) % 128 + 128 = b.toNat := by omega
          have a2 : (b.toNat % 128 + y * 128) / 128 = y := by omega
          rw [a1, a2, UInt8.ofNat_toNat]; rfl
        · rw [h2, e2, Nat.add_mul, Nat.mul_assoc, Nat.add_assoc]
        · rw [h3, enc_great (x := b.toNat % 128 + y * 128) (by omega), List.length_cons]
          have a2 : (b.toNat % 128 + y * 128) / 128 = y := by omega
          rw [a2]; omega
        · intro; omega
theorem scanL_head (l : List UInt8) (h : (scanL 0 0 l).2.2 = 0) : ∃ rest, l = enc (scanL 0 0 l).1 ++ rest ∧ (scanL 0 0 l).2.1 = (enc (scanL 0 0 l).1).length := by
  obtain ⟨y, rest, h1, h2, h3, _⟩ := scanL_enc l 0 0 (by omega) (by omega) h
  have : (scanL 0 0 l).1 = y := by rw [h2]; simp
  rw [this]
  exact ⟨rest, h1, by rw [h3]; omega⟩

/-! Reading: what is left, and the first error. -/
def rNum (l : List UInt8) (e : Int) (most : Nat) : Nat × List UInt8 × Int :=
  if e = 0 then
    if (scanL 0 0 l).2.2 = 0 then (if most < (scanL 0 0 l).1 then (0, [], 4) else ((scanL 0 0 l).1, l.drop (scanL 0 0 l).2.1, 0))
    else (0, [], ((scanL 0 0 l).2.2 : Int))
  else (0, l, e)
def rFail (l : List UInt8) (e c : Int) : List UInt8 × Int := if e = 0 then (if c = 0 then (l, e) else ([], c)) else (l, e)
def rRaw (l : List UInt8) (e n : Int) : List UInt8 × List UInt8 × Int :=
  if (l.length : Int) < n then ([], rFail l e 2) else if e = 0 then (l.take n.toNat, l.drop n.toNat, 0) else ([], l, e)
def rText (l : List UInt8) (e most : Int) : List UInt8 × List UInt8 × Int :=
  rRaw (rNum l e most.toNat).2.1 (rNum l e most.toNat).2.2 ((rNum l e most.toNat).1 : Int)
def encT (l : List UInt8) : List UInt8 := enc l.length ++ l
theorem rNum_enc (y : Nat) (rest : List UInt8) (most : Nat) (hy : y < 18446744073709551616) (h : y ≤ most) : rNum (enc y ++ rest) 0 most = (y, rest, 0) := by
  unfold rNum
  rw [if_pos rfl, scan_num y rest hy]
  simp only [if_true]
  rw [if_neg (by omega), List.drop_left]
theorem rNum_lt (l : List UInt8) (e : Int) (most : Nat) : (rNum l e most).1 < 18446744073709551616 ∧ (rNum l e most).1 ≤ most ∧ (rNum l e most).2.1.length ≤ l.length := by
  unfold rNum
  have := scanL_le l 0 0 (by omega) (by omega)
  split
  · split
    · split
      · simp
      · simp only [List.length_drop]; omega
    · simp
  · simp
theorem rText_enc (t rest : List UInt8) (most : Int) (ht : t.length < 18446744073709551616) (h : (t.length : Int) ≤ most) : rText (encT t ++ rest) 0 most = (t, rest, 0) := by
  unfold rText encT
  rw [List.append_assoc, rNum_enc _ _ _ ht (by omega)]
  simp only
  unfold rRaw
  rw [if_neg (by rw [List.length_append]; omega), if_pos rfl, Int.toNat_natCast, List.take_left, List.drop_left]
/-! As whole numbers. -/
theorem u64_in {n : Int} (h0 : 0 ≤ n) (h1 : n < 18446744073709551616) : IntKind.u64.wrap n = n := by
  simp only [IntKind.wrap, IntKind.bits, IntKind.signed, Bool.false_and, Bool.false_eq_true, if_false]; omega
theorem or128 (b : Nat) (h : b < 256) : bits .or .u8 (b : Int) 128 = ((b % 128 + 128 : Nat) : Int) := by
  have hh := (bits_nat .u8 8 (by decide) wraps_u8 b 128 h (by decide)).2
  rw [show ((128 : Nat) : Int) = 128 from rfl] at hh
  rw [hh]
  congr 1
  have : ∀ b, b < 256 → b ||| 128 = b % 128 + 128 := by decide +kernel
  exact this b h
theorem and127 (b : Nat) (h : b < 256) : bits .and .u8 (b : Int) 127 = ((b % 128 : Nat) : Int) := by
  have hh := (bits_nat .u8 8 (by decide) wraps_u8 b 127 h (by decide)).1
  rw [show ((127 : Nat) : Int) = 127 from rfl] at hh
  rw [hh]
  congr 1
  have : ∀ b, b < 256 → b &&& 127 = b % 128 := by decide +kernel
  exact this b h
theorem or64 (x y i : Nat) (hx : x < 2 ^ i) (h : x + y * 2 ^ i < 18446744073709551616) : bits .or .u64 (x : Int) ((y * 2 ^ i : Nat) : Int) = ((x + y * 2 ^ i : Nat) : Int) := by
  have w64 : ∀ n : Int, 0 ≤ n → n < 2 ^ 64 → IntKind.u64.wrap n = n := fun n h0 h1 => u64_in h0 (by omega)
  rw [(bits_nat .u64 64 (by decide) w64 x (y * 2 ^ i) (by omega) (by omega)).2]
  congr 1
  rw [Nat.or_comm, Nat.mul_comm, ← Nat.two_pow_add_eq_or_of_lt hx y]
  omega
end Go.Proofs.YtkpjkgfaepidaaaDoor.VarPlain

-- small words for plain laws: truth as a Bool, places of lists, wraps of small numbers
namespace Go.Proofs.YtkpjkgfaepidaaaDoor.Tools
open Go Go.RowKit Go.Proofs.YtkpjkgfaepidaaaDoorW.PrintWords Go.Proofs.YtkpjkgfaepidaaaDoorW.PrintLast Go.Proofs.YtkpjkgfaepidaaaDoorW.PrintMore
open Classical in
noncomputable def pb (p : Prop) : Bool := decide p
open Classical in
open Classical in
open Classical in
/-- The j-th text. -/
def tx (l : List ByteArray) (j : Nat) : ByteArray := rdOf ByteArray.empty l (j : Int)
end Go.Proofs.YtkpjkgfaepidaaaDoor.Tools

/- What the program's reader and writer of numbers and texts come to, in plain words (VarPlain). -/
namespace Go.Proofs.YtkpjkgfaepidaaaDoor.PC
open Go.RowKit Go.Proofs.YtkpjkgfaepidaaaDoorW.PrintWords Go.Proofs.YtkpjkgfaepidaaaDoorW.PrintLast Go.Proofs.YtkpjkgfaepidaaaDoorW.PrintMore Go.Proofs.YtkpjkgfaepidaaaDoor.VarPlain

theorem bt_lst (s : ByteArray) (i : Nat) (h : i < s.size) : ∃ b : UInt8, bt s (i : Int) = (b.toNat : Int) ∧ (lst s).drop i = b :: (lst s).drop (i + 1) := by
  have h' : i < (lst s).length := by rw [← size_lst]; exact h
  refine ⟨(lst s)[i], ?_, List.drop_eq_getElem_cons h'⟩
  unfold bt
  rw [Int.toNat_natCast, dif_pos h]
  rfl

theorem nums_mk (l : List UInt8) : strOfNums (l.map fun b => (b.toNat : Int)) = mkS l := by
  unfold strOfNums mkS
  rw [List.map_map]
  have : (fun n : Int => UInt8.ofNat n.toNat) ∘ (fun b : UInt8 => (b.toNat : Int)) = id := by
    funext b; simp
  rw [this, List.map_id]

theorem num_loop (d : Nat) : ∀ (k x : Nat) (acc : List Int), (enc x).length ≤ d → d < k → acc.length + d < 140737488355328 →
    varint_Num.l0 k (x : Int) acc = some (strOfNums (acc ++ (enc x).map fun b => (b.toNat : Int))) := by
  induction d with
  | zero => intro k x acc h; have := enc_len_pos x; omega
  | succ d ih =>
    intro k x acc h hk ha
    obtain ⟨k, rfl⟩ : ∃ m, k = m + 1 := ⟨k - 1, by omega⟩
    simp only [varint_Num.l0]
    by_cases hx : x < 128
    · rw [if_neg (by omega), if_pos (by omega), enc_small hx]
      have : (x : Int) % 256 = ((UInt8.ofNat x).toNat : Int) := by rw [UInt8.toNat_ofNat']; omega
      rw [this]; rfl
    · rw [if_pos (by omega), if_pos (by omega)]
      rw [enc_great (by omega), List.length_cons] at h
      have e1 : (x : Int) % 256 = ((x % 256 : Nat) : Int) := by omega
      have e2 : (x : Int) / 128 = ((x / 128 : Nat) : Int) := by omega
      rw [e1, or128 _ (by omega), e2, ih k (x / 128) _ (by omega) (by omega) (by rw [List.length_append, List.length_singleton]; omega), enc_great (x := x) (by omega), List.map_cons, List.append_assoc]
      have e3 : ((UInt8.ofNat (x % 128 + 128)).toNat : Int) = ((x % 256 % 128 + 128 : Nat) : Int) := by rw [UInt8.toNat_ofNat']; omega
      rw [e3]; rfl
theorem num_is (k x : Nat) (hx : x < 18446744073709551616) (hk : 10 < k) : varint_Num.f k (x : Int) = some (mkS (enc x)) := by
  unfold varint_Num.f
  have := num_loop 10 k x [] (enc_len_u64 hx) hk (by simp)
  rw [this, List.nil_append, nums_mk]
theorem scan_j2 (k : Nat) (s : ByteArray) (x i n b : Int) (hi : 0 ≤ i) (h9 : i ≤ 9) (q : Bool) : varint_scan.j2 (k + 1) s x i b n i q = if q = true then some (0, 0, 3) else
    if b < 128 then some (Go.bits .or .u64 x (shl .u64 (IntKind.u64.wrap (Go.bits .and .u8 b 127)) (wrap64 (7 * i))), wrap64 (i + 1), 0)
    else varint_scan.l0 k s (Go.bits .or .u64 x (shl .u64 (IntKind.u64.wrap (Go.bits .and .u8 b 127)) (wrap64 (7 * i)))) n (wrap64 (i + 1)) := by
  simp only [varint_scan.j2]
  have hw : wrap64 (7 * i) = 7 * i := by unfold wrap64; omega
  have h : 0 ≤ wrap64 (7 * i) := by rw [hw]; omega
  rw [if_pos h]
theorem scan_j1 (k : Nat) (s : ByteArray) (x n : Int) (i b : Nat) (q : Bool) : varint_scan.j1 (k + 2) s x (i : Int) (b : Int) n (i : Int) q = varint_scan.j2 (k + 1) s x (i : Int) (b : Int) n (i : Int) (q || (decide (0 < i) && (b == 0))) := by
  simp only [varint_scan.j1]
  cases q with
  | true => rw [if_pos rfl, Bool.true_or]
  | false =>
    rw [if_neg (by simp)]
    by_cases h0 : 0 < i
    · have h1 : (i : Int) > 0 := by omega
      rw [if_pos h1]
      congr 1
      rw [Bool.eq_iff_iff]; simp [h0]
    · have h1 : ¬ (i : Int) > 0 := by omega
      rw [if_neg h1]
      congr 1
      simp [h0]
theorem scan_l0 (k : Nat) (s : ByteArray) (x : Int) (i b : Nat) (hlt : i < s.size) (hb : bt s (i : Int) = (b : Int)) :
    varint_scan.l0 (k + 3) s x (s.size : Int) (i : Int) = varint_scan.j1 (k + 2) s x (i : Int) (b : Int) (s.size : Int) (i : Int) (decide (i = 9) && decide (1 < b)) := by
  simp only [varint_scan.l0]
  have h1 : (i : Int) < (s.size : Int) := by omega
  have h2 : 0 ≤ (i : Int) := by omega
  rw [if_pos h1, if_pos h2, if_pos h1, hb]
  by_cases h : i = 9
  · have h3 : (i : Int) = 9 := by omega
    rw [if_pos h3]
    congr 1
    rw [Bool.eq_iff_iff, Bool.and_eq_true, decide_eq_true_iff, decide_eq_true_iff, decide_eq_true_iff]
    omega
  · have h3 : ¬ (i : Int) = 9 := by omega
    rw [if_neg h3]
    congr 1
    simp [h]
theorem scan_acc (x i b : Nat) (h9 : i ≤ 9) (hb : b < 256) (hx : x < 2 ^ (7 * i)) (hb9 : i = 9 → b ≤ 1) :
    Go.bits .or .u64 (x : Int) (shl .u64 (IntKind.u64.wrap (Go.bits .and .u8 (b : Int) 127)) (wrap64 (7 * (i : Int)))) = ((x + b % 128 * 2 ^ (7 * i) : Nat) : Int) := by
  have hm : b % 128 * 2 ^ (7 * i) ≤ 127 * 2 ^ (7 * i) := Nat.mul_le_mul_right _ (by omega)
  have hbound : x + b % 128 * 2 ^ (7 * i) < 18446744073709551616 := by
    rcases Nat.lt_or_ge i 9 with h | h
    · have : 2 ^ (7 * i) ≤ 2 ^ 56 := Nat.pow_le_pow_right (by omega) (by omega)
      omega
    · obtain rfl : i = 9 := by omega
      have h1 := hb9 rfl
      have : b % 128 * 2 ^ (7 * 9) ≤ 1 * 2 ^ (7 * 9) := Nat.mul_le_mul_right _ (by omega)
      omega
  have w7 : wrap64 (7 * (i : Int)) = ((7 * i : Nat) : Int) := by unfold wrap64; omega
  have hsh : shl .u64 ((b % 128 : Nat) : Int) ((7 * i : Nat) : Int) = ((b % 128 * 2 ^ (7 * i) : Nat) : Int) := by
    unfold shl
    have hbits : IntKind.u64.bits = 64 := rfl
    rw [Int.toNat_natCast, hbits, Nat.min_eq_left (by omega)]
    have : ((b % 128 : Nat) : Int) * 2 ^ (7 * i) = ((b % 128 * 2 ^ (7 * i) : Nat) : Int) := by rw [Int.natCast_mul, Int.natCast_pow]; rfl
    rw [this]
    exact u64_in (Int.natCast_nonneg _) (by omega)
  have hu : IntKind.u64.wrap ((b % 128 : Nat) : Int) = ((b % 128 : Nat) : Int) := u64_in (Int.natCast_nonneg _) (by omega)
  rw [and127 _ hb, hu, w7, hsh, or64 _ _ _ hx hbound]
theorem scan_loop (s : ByteArray) (hs : s.size ≤ 140737488351232) (d : Nat) : ∀ (k i x : Nat), s.size - i = d → i ≤ s.size → i ≤ 9 → x < 2 ^ (7 * i) → 3 * d < k →
    varint_scan.l0 k s (x : Int) (s.size : Int) (i : Int) = some (((scanL i x ((lst s).drop i)).1 : Int), ((scanL i x ((lst s).drop i)).2.1 : Int), ((scanL i x ((lst s).drop i)).2.2 : Int)) := by
  induction d with
  | zero =>
    intro k i x hd hi _ _ hk
    obtain ⟨k, rfl⟩ : ∃ m, k = m + 1 := ⟨k - 1, by omega⟩
    have h1 : ¬ (i : Int) < (s.size : Int) := by omega
    simp only [varint_scan.l0]
    rw [if_neg h1, List.drop_eq_nil_of_le (by rw [← size_lst]; omega)]; rfl
  | succ d ih =>
    intro k i x hd hi h9 hx hk
    obtain ⟨k, rfl⟩ : ∃ m, k = m + 3 := ⟨k - 3, by omega⟩
    have hlt : i < s.size := by omega
    obtain ⟨b, hb, hdrop⟩ := bt_lst s i hlt
    have hbl := b.toNat_lt
    have hw : wrap64 ((i : Int) + 1) = ((i + 1 : Nat) : Int) := by unfold wrap64; omega
    have hi9 : (i : Int) ≤ 9 := by omega
    rw [scan_l0 k s x i b.toNat hlt hb, scan_j1, scan_j2 _ _ _ _ _ _ (Int.natCast_nonneg _) hi9, hdrop, scanL]
    by_cases c : (i = 9 ∧ 1 < b.toNat) ∨ (0 < i ∧ b.toNat = 0)
    · have c' : (decide (i = 9) && decide (1 < b.toNat) || (decide (0 < i) && (b.toNat == 0))) = true := by
        rw [Bool.or_eq_true, Bool.and_eq_true, Bool.and_eq_true, decide_eq_true_iff, decide_eq_true_iff, decide_eq_true_iff, beq_iff_eq]; exact c
      rw [if_pos c', if_pos c]; rfl
    · have c' : ¬ (decide (i = 9) && decide (1 < b.toNat) || (decide (0 < i) && (b.toNat == 0))) = true := by
        rw [Bool.or_eq_true, Bool.and_eq_true, Bool.and_eq_true, decide_eq_true_iff, decide_eq_true_iff, decide_eq_true_iff, beq_iff_eq]; exact c
      rw [if_neg c', if_neg c, hw, scan_acc x i b.toNat h9 hbl hx (by omega)]
      by_cases d8 : b.toNat < 128
      · have d9 : (b.toNat : Int) < 128 := by omega
        rw [if_pos d9, if_pos d8]; rfl
      · have d9 : ¬ (b.toNat : Int) < 128 := by omega
        rw [if_neg d9, if_neg d8]
        have e2 : 2 ^ (7 * (i + 1)) = 128 * 2 ^ (7 * i) := by rw [Nat.mul_add, Nat.pow_add]; omega
        have hm : b.toNat % 128 * 2 ^ (7 * i) ≤ 127 * 2 ^ (7 * i) := Nat.mul_le_mul_right _ (by omega)
        exact ih k (i + 1) _ (by omega) (by omega) (by omega) (by omega) (by omega)
theorem scan_is (k : Nat) (s : ByteArray) (hs : s.size ≤ 140737488351232) (hk : 3 * s.size < k) :
    varint_scan.f k s = some (((scanL 0 0 (lst s)).1 : Int), ((scanL 0 0 (lst s)).2.1 : Int), ((scanL 0 0 (lst s)).2.2 : Int)) := by
  unfold varint_scan.f
  have := scan_loop s hs s.size k 0 0 (by omega) (by omega) (by omega) (by simp) hk
  rw [List.drop_zero] at this
  exact this

theorem fail_is (s : ByteArray) (e c : Int) : varint_In_Fail.f s e c = some (mkS (rFail (lst s) e c).1, (rFail (lst s) e c).2) := by
  unfold varint_In_Fail.f rFail
  by_cases h : e = 0
  · rw [if_pos h, if_pos h]
    by_cases h2 : c = 0
    · rw [if_pos h2, if_pos h2]; rfl
    · rw [if_neg h2, if_neg h2]; rfl
  · rw [if_neg h, if_neg h]; rfl
theorem innum_is (k : Nat) (s : ByteArray) (e : Int) (most : Nat) (hs : s.size ≤ 140737488351232) (hk : 3 * s.size < k) :
    varint_In_Num.f k s e (most : Int) = some (((rNum (lst s) e most).1 : Int), mkS (rNum (lst s) e most).2.1, (rNum (lst s) e most).2.2) := by
  unfold varint_In_Num.f rNum
  by_cases h : e = 0
  · subst h
    rw [if_pos rfl, scan_is k s hs hk]
    have hl := scanL_le (lst s) 0 0 (by omega) (by omega)
    rw [← size_lst] at hl
    simp only [Option.bind_some, if_true]
    by_cases h1 : (scanL 0 0 (lst s)).2.2 = 0
    · rw [if_pos (by omega), if_pos h1]
      by_cases h2 : most < (scanL 0 0 (lst s)).1
      · rw [if_pos (by omega), if_pos h2, fail_is]; rfl
      · rw [if_neg (by omega), if_neg h2, if_pos (by omega), if_pos (by omega), Int.toNat_natCast, extract_from]
    · rw [if_neg (by omega), if_neg h1, fail_is]
      unfold rFail
      rw [if_pos rfl, if_neg (by omega)]
      rfl
  · rw [if_neg h, if_neg h]; rfl
theorem end_is (s : ByteArray) (e : Int) : varint_In_End.f s e = some (if lst s = [] then e else 3, s, e) := by
  unfold varint_In_End.f
  rw [toList_lst]
  split <;> rfl
theorem err_is (s : ByteArray) (e : Int) : varint_In_Err.f s e = some (e, s, e) := rfl
end Go.Proofs.YtkpjkgfaepidaaaDoor.PC

/- What the program's reader and writer of numbers and texts come to, in plain words (VarPlain). -/
namespace Go.Proofs.YtkpjkgfaepidaaaDoor.PC
open Go.RowKit Go.Proofs.YtkpjkgfaepidaaaDoorW.PrintWords Go.Proofs.YtkpjkgfaepidaaaDoorW.PrintLast Go.Proofs.YtkpjkgfaepidaaaDoorW.PrintMore Go.Proofs.YtkpjkgfaepidaaaDoor.VarPlain

theorem text_is (k : Nat) (s : ByteArray) (hs : s.size ≤ 140737488351232) (hk : 10 < k) : varint_Text.f k s = some (mkS (encT (lst s))) := by
  unfold varint_Text.f
  rw [if_pos (by omega), num_is k s.size (by omega) hk]
  have := enc_len_u64 (x := s.size) (by omega)
  simp only [Option.bind_some]
  rw [if_pos (by rw [size_mk]; omega), append_lst, lst_mk, size_lst]
  rfl

theorem raw_is (s : ByteArray) (e n : Int) (he : e = 0 ∨ lst s = []) (hn : 0 ≤ n) : varint_In_Raw.f s e n = some (mkS (rRaw (lst s) e n).1, mkS (rRaw (lst s) e n).2.1, (rRaw (lst s) e n).2.2) := by
  unfold varint_In_Raw.f rRaw
  have hm : mx n 0 = n := by unfold mx; rw [if_neg (by omega)]
  rw [hm]
  by_cases h : (s.size : Int) < n
  · have h1 : ((lst s).length : Int) < n := by rw [← size_lst]; exact h
    rw [if_pos h, if_pos h1, fail_is]
    simp only [Option.bind_some]
    have h2 : ¬ (rFail (lst s) e 2).2 = 0 := by
      unfold rFail
      by_cases h0 : e = 0
      · rw [if_pos h0, if_neg (by decide)]; decide
      · rw [if_neg h0]; exact h0
    rw [if_neg h2]; rfl
  · have h1 : ¬ ((lst s).length : Int) < n := by rw [← size_lst]; exact h
    rw [if_neg h, if_neg h1]
    by_cases h0 : e = 0
    · subst h0
      have h3 : n ≤ (s.size : Int) := by omega
      rw [if_pos rfl, if_pos rfl, if_pos hn, if_pos h3, extract_to, extract_from]
    · rw [if_neg h0, if_neg h0]; rfl
theorem rNum_left (l : List UInt8) (e : Int) (most : Nat) (h : e = 0 ∨ l = []) : (rNum l e most).2.2 = 0 ∨ (rNum l e most).2.1 = [] := by
  unfold rNum
  repeat' split
  all_goals first | exact .inl rfl | exact .inr rfl | (rcases h with h | h; exact absurd h ‹_›; exact .inr h)
theorem rRaw_left (l : List UInt8) (e n : Int) (h : e = 0 ∨ l = []) : (rRaw l e n).2.2 = 0 ∨ (rRaw l e n).2.1 = [] := by
  unfold rRaw rFail
  by_cases c : (l.length : Int) < n
  · rw [if_pos c]
    by_cases c1 : e = 0
    · rw [if_pos c1, if_neg (by decide)]; exact .inr rfl
    · rw [if_neg c1]; exact .inr (h.resolve_left c1)
  · rw [if_neg c]
    by_cases c1 : e = 0
    · rw [if_pos c1]; exact .inl rfl
    · rw [if_neg c1]; exact .inr (h.resolve_left c1)
theorem rText_left (l : List UInt8) (e most : Int) (h : e = 0 ∨ l = []) : (rText l e most).2.2 = 0 ∨ (rText l e most).2.1 = [] := rRaw_left _ _ _ (rNum_left _ _ _ h)
theorem text_most (most : Int) (hm : most ≤ 9223372036854775807) : IntKind.u64.wrap (mx most 0) = ((most.toNat : Nat) : Int) := by
  have h : mx most 0 = ((most.toNat : Nat) : Int) := by unfold mx; split <;> omega
  have h1 : ((most.toNat : Nat) : Int) < 18446744073709551616 := by omega
  rw [h]
  exact u64_in (Int.natCast_nonneg _) h1
theorem small_wrap {n : Nat} (h : n ≤ 9223372036854775807) : wrap64 (n : Int) = (n : Int) := by unfold wrap64; omega
theorem intext1 (k : Nat) (s : ByteArray) (e most : Int) (R : Nat × List UInt8 × Int) (hn : varint_In_Num.f k s e ((most.toNat : Nat) : Int) = some ((R.1 : Int), mkS R.2.1, R.2.2)) (hl : R.2.2 = 0 ∨ R.2.1 = []) (hm : IntKind.u64.wrap (mx most 0) = ((most.toNat : Nat) : Int)) (hw : wrap64 (R.1 : Int) = (R.1 : Int)) :
    varint_In_Text.f k s e most = some (mkS (rRaw R.2.1 R.2.2 (R.1 : Int)).1, mkS (rRaw R.2.1 R.2.2 (R.1 : Int)).2.1, (rRaw R.2.1 R.2.2 (R.1 : Int)).2.2) := by
  have hr := raw_is (mkS R.2.1) R.2.2 (R.1 : Int) (by rw [lst_mk]; exact hl) (Int.natCast_nonneg _)
  unfold varint_In_Text.f
  rw [hm, hn, Option.bind_some]
  rw [hw, hr, lst_mk, Option.bind_some]
theorem intext2 (s : ByteArray) (e most : Int) (hm : most ≤ 9223372036854775807) : (rNum (lst s) e most.toNat).1 ≤ 9223372036854775807 := by
  have h1 := (rNum_lt (lst s) e most.toNat).2.1
  have h2 : most.toNat ≤ 9223372036854775807 := by omega
  exact Nat.le_trans h1 h2
theorem intext_is (k : Nat) (s : ByteArray) (e most : Int) (he : e = 0 ∨ lst s = []) (hs : s.size ≤ 140737488351232) (hk : 3 * s.size < k) (hm : most ≤ 9223372036854775807) :
    varint_In_Text.f k s e most = some (mkS (rText (lst s) e most).1, mkS (rText (lst s) e most).2.1, (rText (lst s) e most).2.2) :=
  intext1 k s e most _ (innum_is k s e most.toNat hs hk) (rNum_left (lst s) e most.toNat he) (text_most most hm) (small_wrap (intext2 s e most hm))
end Go.Proofs.YtkpjkgfaepidaaaDoor.PC

/- What the document's own text of layer 1 comes to: numbers and texts as bytes. -/
namespace Go.Proofs.YtkpjkgfaepidaaaDoor.PC
open Go.RowKit Go.Proofs.YtkpjkgfaepidaaaDoorW.PrintWords Go.Proofs.YtkpjkgfaepidaaaDoorW.PrintLast Go.Proofs.YtkpjkgfaepidaaaDoorW.PrintMore Go.Proofs.YtkpjkgfaepidaaaDoor.VarPlain
end Go.Proofs.YtkpjkgfaepidaaaDoor.PC

/- What the document's own text of layer 1 comes to: numbers and texts as bytes. -/
namespace Go.Proofs.YtkpjkgfaepidaaaDoor.PC
open Go.RowKit Go.Proofs.YtkpjkgfaepidaaaDoorW.PrintWords Go.Proofs.YtkpjkgfaepidaaaDoorW.PrintLast Go.Proofs.YtkpjkgfaepidaaaDoorW.PrintMore Go.Proofs.YtkpjkgfaepidaaaDoor.VarPlain
end Go.Proofs.YtkpjkgfaepidaaaDoor.PC

-- the document's Head is the scan of the plain law
namespace Go.Proofs.YtkpjkgfaepidaaaDoor.PC
open Go.RowKit Go.Proofs.YtkpjkgfaepidaaaDoorW.PrintWords Go.Proofs.YtkpjkgfaepidaaaDoorW.PrintLast Go.Proofs.YtkpjkgfaepidaaaDoorW.PrintMore Go.Proofs.YtkpjkgfaepidaaaDoor.VarPlain
def low : List UInt8 → Nat
  | [] => 0
  | b :: l => b.toNat % 128 + 128 * low l
end Go.Proofs.YtkpjkgfaepidaaaDoor.PC

-- facts of the plain reading: what an error leaves, and what was read when there is none
namespace Go.Proofs.YtkpjkgfaepidaaaDoor.PC
open Go.RowKit Go.Proofs.YtkpjkgfaepidaaaDoorW.PrintWords Go.Proofs.YtkpjkgfaepidaaaDoorW.PrintLast Go.Proofs.YtkpjkgfaepidaaaDoorW.PrintMore Go.Proofs.YtkpjkgfaepidaaaDoor.VarPlain Go.Proofs.YtkpjkgfaepidaaaDoor.Tools
theorem rText_err (e most : Int) (he : e ≠ 0) : rText [] e most = ([], [], e) := by
  unfold rText rNum
  rw [if_neg he]
  unfold rRaw
  rw [if_neg (by simp), if_neg he]
theorem rNum_err (l : List UInt8) (e : Int) (most : Nat) (he : e ≠ 0) : rNum l e most = (0, l, e) := by unfold rNum; rw [if_neg he]
theorem rNum_bad (l : List UInt8) (most : Nat) (h : (rNum l 0 most).2.2 ≠ 0) : rNum l 0 most = (0, [], (rNum l 0 most).2.2) := by
  unfold rNum at h ⊢
  rw [if_pos rfl] at h ⊢
  split
  · split
    · rfl
    · rename_i h1 h2; rw [if_pos h1, if_neg h2] at h; exact absurd rfl h
  · rfl
theorem rNum_head (l : List UInt8) (most : Nat) (h : (rNum l 0 most).2.2 = 0) : l = enc (rNum l 0 most).1 ++ (rNum l 0 most).2.1 ∧ (rNum l 0 most).1 ≤ most := by
  refine ⟨?_, (rNum_lt l 0 most).2.1⟩
  unfold rNum at h ⊢
  rw [if_pos rfl] at h ⊢
  by_cases h1 : (scanL 0 0 l).2.2 = 0
  · rw [if_pos h1] at h ⊢
    by_cases h2 : most < (scanL 0 0 l).1
    · rw [if_pos h2] at h; exact absurd h (by simp)
    · rw [if_neg h2]
      obtain ⟨rest, e1, e2⟩ := scanL_head l h1
      simp only
      have : l.drop (scanL 0 0 l).2.1 = rest := by
        rw [e2]
        exact (congrArg (List.drop (enc (scanL 0 0 l).1).length) e1).trans List.drop_left
      rw [this]; exact e1
  · rw [if_neg h1] at h; simp only at h; omega
end Go.Proofs.YtkpjkgfaepidaaaDoor.PC

/- A request's bytes: what Decode and the document's Decode read of any bytes is one plain reading, and what is read without an error has just these bytes. Conditions: at most 1000 bytes. -/
namespace Go.Proofs.YtkpjkgfaepidaaaDoor.PC
open Go.RowKit Go.Proofs.YtkpjkgfaepidaaaDoorW.PrintWords Go.Proofs.YtkpjkgfaepidaaaDoorW.PrintLast Go.Proofs.YtkpjkgfaepidaaaDoorW.PrintMore Go.Proofs.YtkpjkgfaepidaaaDoor.VarPlain Go.Proofs.YtkpjkgfaepidaaaDoor.Tools Go.Proofs.YtkpjkgfaepidaaaDoor.Glob
set_option linter.unusedVariables false
/-! Numbers' bytes. -/
def encN : List Nat → List UInt8
  | [] => []
  | x :: l => enc x ++ encN l
def toI (l : List Nat) : List Int := l.map fun x : Nat => (x : Int)
theorem toI_len (l : List Nat) : (toI l).length = l.length := List.length_map ..
theorem toI_append (a b : List Nat) : toI (a ++ b) = toI a ++ toI b := List.map_append ..
theorem toI_at (l : List Nat) (i : Nat) (h : i < l.length) : rd (toI l) (i : Int) = (l[i] : Int) := by
  unfold rd toI
  rw [Int.toNat_natCast, List.getD_eq_getElem?_getD, List.getElem?_map, List.getElem?_eq_getElem h]; rfl
def Low (l : List Nat) : Prop := ∀ x ∈ l, x ≤ 2147483647
theorem encN_len : ∀ (l : List Nat), Low l → (encN l).length ≤ 10 * l.length
  | [], _ => by simp [encN]
  | x :: l, h => by
    have ih := encN_len l (fun q hq => h q (List.mem_cons_of_mem _ hq))
    have hx := h x (by simp)
    have h1 := enc_len_u64 (x := x) (by omega)
    simp only [encN, List.length_append, List.length_cons]
    omega
theorem numsB_loop (l : List Nat) (hl : l.length ≤ 100000) (hn : Low l) (d : Nat) : ∀ (k i : Nat) (acc : List UInt8), l.length - i = d → i ≤ l.length → d + 11 < k → acc.length ≤ 20 + 10 * i →
    request_nums.l0 k (toI l) i acc = some (mkS (acc ++ encN (l.drop i))) := by
  induction d with
  | zero =>
    intro k i acc hd hi hk ha
    obtain ⟨k, rfl⟩ : ∃ m, k = m + 1 := ⟨k - 1, by omega⟩
    rw [request_nums.l0, if_neg (by rw [toI_len]; omega), List.drop_of_length_le (by omega)]
    unfold encN mkS; rw [List.append_nil]
  | succ d ih =>
    intro k i acc hd hi hk ha
    obtain ⟨k, rfl⟩ : ∃ m, k = m + 1 := ⟨k - 1, by omega⟩
    have hil : i < l.length := by omega
    have hx := hn l[i] (List.getElem_mem hil)
    have h1 := enc_len_u64 (x := l[i]) (by omega)
    have g0 : varint_Num.f k (IntKind.u64.wrap (l[i] : Int)) = some (mkS (enc l[i])) := by
      rw [u64_in (by omega) (by omega)]
      exact num_is k l[i] (by omega) (by omega)
    rw [request_nums.l0, if_pos (by rw [toI_len]; exact hil), toI_at l i hil, g0]
    simp only [Option.bind_some]
    rw [if_pos (by rw [size_mk]; omega)]
    have := ih k (i + 1) (acc ++ enc l[i]) (by omega) (by omega) (by omega) (by rw [List.length_append]; omega)
    rw [List.drop_eq_getElem_cons hil, encN]
    refine this.trans ?_
    rw [List.append_assoc]
theorem numsB_is (k : Nat) (l : List Nat) (hl : l.length ≤ 100000) (hn : Low l) (hk : l.length + 11 < k) : request_nums.f k (toI l) = some (mkS (encN l)) := by
  have := numsB_loop l hl hn l.length k 0 [] (by omega) (by omega) hk (by simp)
  rw [List.drop_zero, List.nil_append] at this
  exact this
/-- A request's bytes. -/
def reqB (x : Nat) (ns : List Nat) (t : List UInt8) : List UInt8 := enc x ++ encN ns ++ (if x = 1 then encT t else [])
theorem reqenc_is (k x : Nat) (ns : List Nat) (t : List UInt8) (hx : x ≤ 2147483647) (hl : ns.length ≤ 1000) (hn : Low ns) (ht : t.length ≤ 100000) (hk : 2000 < k) :
    request_Request_Encode.f k (x : Int) (toI ns) (mkS t) = some (mkS (reqB x ns t)) := by
  have h1 := numsB_is k [x] (by simp) (fun y hy => by rw [List.mem_singleton] at hy; omega) (by simp; omega)
  have h2 := numsB_is k ns (by omega) hn (by omega)
  have e1 := enc_len_u64 (x := x) (by omega)
  have e2 := encN_len ns hn
  unfold request_Request_Encode.f
  rw [show ([(x : Int)] : List Int) = toI [x] from rfl, h1, Option.bind_some, h2, Option.bind_some, if_pos (by rw [size_mk, size_mk]; simp only [encN, List.append_nil]; omega)]
  unfold reqB
  by_cases h : x = 1
  · have e3 := enc_len_u64 (x := t.length) (by omega)
    rw [if_pos (by omega), if_pos h, text_is k (mkS t) (by rw [size_mk]; omega) (by omega), Option.bind_some, lst_mk, append_mk, if_pos (by rw [size_mk, size_mk]; simp only [encT, encN, List.append_nil, List.length_append]; omega), append_mk]
    simp only [encN, List.append_nil]
  · rw [if_neg (by omega), if_neg h, append_mk]
    simp only [encN, List.append_nil]
/-! Reading. -/
def rdN : Nat → List UInt8 → Int → List Nat → List Nat × List UInt8 × Int
  | 0, l, e, acc => (acc, l, e)
  | c + 1, l, e, acc => rdN c (rNum l e 2147483647).2.1 (rNum l e 2147483647).2.2 (acc ++ [(rNum l e 2147483647).1])
/-- What is told behind the numbers: a text, or none; nothing may be left. -/
def finR (x : Nat) (ns : List Nat) (t : List UInt8 × List UInt8 × Int) : Nat × List Nat × List UInt8 × Int :=
  if t.2.2 = 0 then (if t.2.1 = [] then (x, ns, t.1, 0) else (0, [], [], 3)) else (0, [], [], t.2.2)
def decT (x : Nat) (r : List Nat × List UInt8 × Int) : Nat × List Nat × List UInt8 × Int :=
  if r.2.2 = 0 then finR x r.1 (if x = 1 then rText r.2.1 0 65536 else ([], r.2.1, 0)) else (0, [], [], r.2.2)
def decL (l : List UInt8) : Nat × List Nat × List UInt8 × Int :=
  if (rNum l 0 255).2.2 = 0 then (if 1 ≤ (rNum l 0 255).1 ∧ (rNum l 0 255).1 ≤ 16 then decT (rNum l 0 255).1 (rdN (gcount ((rNum l 0 255).1 : Int)).toNat (rNum l 0 255).2.1 0 []) else (0, [], [], 13)) else (0, [], [], (rNum l 0 255).2.2)
def tupR (r : Nat × List Nat × List UInt8 × Int) : Int × List Int × ByteArray × Int := ((r.1 : Int), toI r.2.1, mkS r.2.2.1, r.2.2.2)
theorem w_small {x : Nat} (h : x ≤ 9223372036854775807) : wrap64 (x : Int) = (x : Int) := by unfold wrap64; omega
theorem end_nil (e : Int) : varint_In_End.f (mkS []) e = some (e, mkS [], e) := by
  have := end_is (mkS []) e
  rw [lst_mk, if_pos rfl] at this
  exact this
theorem end_more {l : List UInt8} {e : Int} (h : l ≠ []) : varint_In_End.f (mkS l) e = some (3, mkS l, e) := by
  have := end_is (mkS l) e
  rw [lst_mk, if_neg h] at this
  exact this
theorem decj2_is (k : Nat) (l : List UInt8) (e : Int) (he : e = 0 ∨ l = []) (hl : l.length ≤ 1000) (x : Nat) (ns : List Nat) (hk : 4000 < k) :
    request_Decode.j2 k (mkS l) e (x : Int) (toI ns) (⟨#[]⟩ : ByteArray) = some (tupR (decT x (ns, l, e))) := by
  obtain ⟨k, rfl⟩ : ∃ m, k = m + 1 := ⟨k - 1, by omega⟩
  rw [request_Decode.j2]
  unfold decT finR
  by_cases hx : x = 1
  · rw [if_pos (by omega), intext_is k (mkS l) e 65536 (by rw [lst_mk]; exact he) (by rw [size_mk]; omega) (by rw [size_mk]; omega) (by omega), lst_mk, Option.bind_some]
    by_cases h0 : e = 0
    · subst h0
      have hb := rText_left l 0 65536 (.inl rfl)
      rw [if_pos rfl, if_pos hx]
      by_cases h2 : (rText l 0 65536).2.1 = []
      · show ((varint_In_End.f (mkS (rText l 0 65536).2.1) (rText l 0 65536).2.2).bind fun bt => _) = _
        rw [h2, end_nil, Option.bind_some]
        by_cases h1 : (rText l 0 65536).2.2 = 0
        · rw [if_pos h1, if_pos h1, if_pos rfl]; rfl
        · rw [if_neg h1, if_neg h1]; rfl
      · have h1 : (rText l 0 65536).2.2 = 0 := by rcases hb with h | h; exact h; exact absurd h h2
        show ((varint_In_End.f (mkS (rText l 0 65536).2.1) (rText l 0 65536).2.2).bind fun bt => _) = _
        rw [end_more h2, Option.bind_some, if_neg (show ¬ (3 : Int) = 0 by decide), if_pos h1, if_neg h2]; rfl
    · have h2 : l = [] := by rcases he with h | h; exact absurd h h0; exact h
      subst h2
      rw [rText_err e 65536 h0, if_neg h0]
      show ((varint_In_End.f (mkS []) e).bind fun bt => _) = _
      rw [end_nil, Option.bind_some, if_neg h0]; rfl
  · rw [if_neg (by omega)]
    by_cases h2 : l = []
    · subst h2
      rw [end_nil, Option.bind_some]
      by_cases h0 : e = 0
      · rw [if_pos h0, if_pos h0, if_neg hx, if_pos rfl, if_pos rfl]; rfl
      · rw [if_neg h0, if_neg h0]; rfl
    · have h0 : e = 0 := by rcases he with h | h; exact h; exact absurd h h2
      rw [end_more h2, Option.bind_some, if_neg (show ¬ (3 : Int) = 0 by decide), if_pos h0, if_neg hx, if_pos rfl, if_neg h2]; rfl
theorem decl0_is (n : Nat) (hn : n ≤ 3) (x : Nat) (d : Nat) : ∀ (k i : Nat) (l : List UInt8) (e : Int) (ns : List Nat), n - i = d → i ≤ n → (e = 0 ∨ l = []) → l.length ≤ 1000 → ns.length ≤ i → 5000 + d < k →
    request_Decode.l0 k (n : Int) (i : Int) (mkS l) e (x : Int) (toI ns) (⟨#[]⟩ : ByteArray) = some (tupR (decT x (rdN (n - i) l e ns))) := by
  induction d with
  | zero =>
    intro k i l e ns hd hi he hl hs hk
    obtain ⟨k, rfl⟩ : ∃ m, k = m + 1 := ⟨k - 1, by omega⟩
    rw [request_Decode.l0, if_neg (by omega), decj2_is k l e he hl x ns (by omega), hd]; rfl
  | succ d ih =>
    intro k i l e ns hd hi he hl hs hk
    obtain ⟨k, rfl⟩ : ∃ m, k = m + 1 := ⟨k - 1, by omega⟩
    have hr := rNum_lt l e 2147483647
    have hin := innum_is k (mkS l) e 2147483647 (by rw [size_mk]; omega) (by rw [size_mk]; omega)
    rw [show ((2147483647 : Nat) : Int) = 2147483647 from rfl, lst_mk] at hin
    rw [request_Decode.l0, if_pos (by omega), hin]
    simp only [Option.bind_some]
    rw [if_pos (by rw [toI_len]; omega), w_small (by omega), show wrap64 ((i : Int) + 1) = ((i + 1 : Nat) : Int) from by unfold wrap64; omega,
      show toI ns ++ [((rNum l e 2147483647).1 : Int)] = toI (ns ++ [(rNum l e 2147483647).1]) from by rw [toI_append]; rfl,
      ih k (i + 1) _ _ _ (by omega) (by omega) (rNum_left l e _ he) (by omega) (by rw [List.length_append, List.length_singleton]; omega) (by omega)]
    rw [show n - i = (n - (i + 1)) + 1 by omega, rdN]
theorem gcountN (x : Int) : ∃ n : Nat, gcount x = (n : Int) ∧ n ≤ 3 := ⟨(gcount x).toNat, by have := gcount_range x; omega, by have := gcount_range x; omega⟩
theorem dec_is (k : Nat) (l : List UInt8) (hl : l.length ≤ 1000) (hk : 6000 < k) : request_Decode.f k (mkS l) = some (tupR (decL l)) := by
  obtain ⟨k, rfl⟩ : ∃ m, k = m + 1 := ⟨k - 1, by omega⟩
  have hin := innum_is (k + 1) (mkS l) 0 255 (by rw [size_mk]; omega) (by rw [size_mk]; omega)
  rw [show ((255 : Nat) : Int) = 255 from rfl, lst_mk] at hin
  have hr := rNum_lt l 0 255
  have hlf := rNum_left l 0 255 (.inl rfl)
  unfold request_Decode.f decL
  simp only [varint_Of.f, Option.bind_some]
  rw [hin]
  simp only [Option.bind_some, err_is]
  generalize rNum l 0 255 = R at hr hlf ⊢
  obtain ⟨x, l1, e⟩ := R
  simp only at hr hlf ⊢
  rw [w_small (by omega)]
  by_cases he : e = 0
  · subst he
    rw [if_pos rfl, if_pos rfl]
    unfold request_is.f
    by_cases hx : 1 ≤ x ∧ x ≤ 16
    · obtain ⟨n, hn, hn3⟩ := gcountN (x : Int)
      rw [if_pos (by omega), Option.bind_some, decide_eq_true (by omega), if_pos hx, request_Decode.j0, if_neg (by decide)]
      simp only [Option.bind_some, err_is, if_true]
      rw [if_pos (by omega), if_pos (by omega), hn]
      have := decl0_is n hn3 x (n - 0) k 0 l1 0 [] rfl (by omega) (.inl rfl) (by omega) (by simp) (by omega)
      rw [Nat.sub_zero] at this
      rw [Int.toNat_natCast]
      exact this
    · rw [if_neg hx]
      have hb : (if (x : Int) ≥ 1 then some (decide ((x : Int) ≤ 16)) else some false) = some false := by
        by_cases h1 : (x : Int) ≥ 1
        · rw [if_pos h1, decide_eq_false (by omega)]
        · rw [if_neg h1]
      rw [hb, Option.bind_some, request_Decode.j0, if_pos (by decide)]
      rfl
  · rw [if_neg he, if_neg he, request_Decode.j0, if_neg (by decide)]
    have h1 : l1 = [] := by rcases hlf with h | h; exact absurd h he; exact h
    subst h1
    simp only [Option.bind_some, err_is]
    rw [if_neg he]
    have := decj2_is k [] e (.inr rfl) (by simp) x [] (by omega)
    rw [show toI [] = ([] : List Int) from rfl] at this
    rw [this]
    unfold decT
    rw [if_neg he]
end Go.Proofs.YtkpjkgfaepidaaaDoor.PC

/- The document's Decode is the same plain reading as the program's; what is read without an error has just these bytes. Conditions: at most 1000 bytes. -/
namespace Go.Proofs.YtkpjkgfaepidaaaDoor.PC
open Go.RowKit Go.Proofs.YtkpjkgfaepidaaaDoorW.PrintWords Go.Proofs.YtkpjkgfaepidaaaDoorW.PrintLast Go.Proofs.YtkpjkgfaepidaaaDoorW.PrintMore Go.Proofs.YtkpjkgfaepidaaaDoor.VarPlain Go.Proofs.YtkpjkgfaepidaaaDoor.Tools Go.Proofs.YtkpjkgfaepidaaaDoor.Glob
set_option linter.unusedVariables false
end Go.Proofs.YtkpjkgfaepidaaaDoor.PC

/- A response's bytes: what Parse and the document's Parse read of any bytes is one plain reading, and what is read without an error has just these bytes. Conditions: at most 1000 bytes to be read; at most 8 lists of at most 2000 numbers to be written. -/
namespace Go.Proofs.YtkpjkgfaepidaaaDoor.PC
open Go.RowKit Go.Proofs.YtkpjkgfaepidaaaDoorW.PrintWords Go.Proofs.YtkpjkgfaepidaaaDoorW.PrintLast Go.Proofs.YtkpjkgfaepidaaaDoorW.PrintMore Go.Proofs.YtkpjkgfaepidaaaDoor.VarPlain Go.Proofs.YtkpjkgfaepidaaaDoor.Tools Go.Proofs.YtkpjkgfaepidaaaDoor.Glob
set_option linter.unusedVariables false
def toLL (L : List (List Nat)) : List (List Int) := L.map toI
theorem toLL_len (L : List (List Nat)) : (toLL L).length = L.length := List.length_map ..
theorem toLL_append (a b : List (List Nat)) : toLL (a ++ b) = toLL a ++ toLL b := List.map_append ..
theorem toLL_at (L : List (List Nat)) (i : Nat) (h : i < L.length) : rd_L2 (toLL L) (i : Int) = toI L[i] := by
  unfold rd_L2 toLL
  rw [Int.toNat_natCast, List.getD_eq_getElem?_getD, List.getElem?_map, List.getElem?_eq_getElem h]; rfl
def encLL : List (List Nat) → List UInt8
  | [] => []
  | l :: L => enc l.length ++ encN l ++ encLL L
def SmL (L : List (List Nat)) : Prop := L.length ≤ 8 ∧ ∀ l ∈ L, Low l ∧ l.length ≤ 2000
/-- A response's bytes. -/
def respB (c : Nat) (L : List (List Nat)) (t : List UInt8) : List UInt8 := enc c ++ (if c = 0 then enc L.length ++ encLL L ++ encT t else [])
theorem resp_loop (L : List (List Nat)) (hL : SmL L) (t : List UInt8) (ht : t.length ≤ 100000) (c : Int) (d : Nat) : ∀ (k i : Nat) (acc : List UInt8), L.length - i = d → i ≤ L.length → acc.length ≤ 100 + 30000 * i → 3000 + d < k →
    request_Response_Encode.l0 k (mkS acc) (toLL L) (L.length : Int) (i : Int) c (toLL L) (mkS t) = some (mkS (acc ++ (encLL (L.drop i) ++ encT t))) := by
  have hL8 := hL.1
  induction d with
  | zero =>
    intro k i acc hd hi ha hk
    obtain ⟨k, rfl⟩ : ∃ m, k = m + 1 := ⟨k - 1, by omega⟩
    have e1 := enc_len_u64 (x := t.length) (by omega)
    rw [request_Response_Encode.l0, if_neg (by omega), text_is k (mkS t) (by rw [size_mk]; omega) (by omega), Option.bind_some, lst_mk,
      if_pos (by rw [size_mk, size_mk]; simp only [encT, List.length_append]; omega), append_mk, List.drop_of_length_le (by omega)]
    rfl
  | succ d ih =>
    intro k i acc hd hi ha hk
    obtain ⟨k, rfl⟩ : ∃ m, k = m + 1 := ⟨k - 1, by omega⟩
    have hil : i < L.length := by omega
    obtain ⟨h1, h2⟩ := hL.2 L[i] (List.getElem_mem hil)
    have n1 := numsB_is k [L[i].length] (by simp) (fun y hy => by rw [List.mem_singleton] at hy; omega) (by simp; omega)
    have n2 := numsB_is k L[i] (by omega) h1 (by omega)
    have e1 := enc_len_u64 (x := L[i].length) (by omega)
    have e2 := encN_len L[i] h1
    rw [request_Response_Encode.l0, if_pos (by omega), if_pos (by omega), if_pos (by rw [toLL_len]; omega), toLL_at L i hil,
      show (((toI L[i]).length : Int)) = (L[i].length : Int) from by rw [toI_len], show ([(L[i].length : Int)] : List Int) = toI [L[i].length] from rfl, n1, Option.bind_some, n2, Option.bind_some,
      if_pos (by rw [size_mk, size_mk]; simp only [encN, List.append_nil]; omega), append_mk, if_pos (by rw [size_mk, size_mk]; simp only [encN, List.append_nil, List.length_append]; omega), append_mk,
      show wrap64 ((i : Int) + 1) = ((i + 1 : Nat) : Int) from by unfold wrap64; omega]
    rw [ih k (i + 1) _ (by omega) (by omega) (by simp only [encN, List.append_nil, List.length_append]; omega) (by omega), List.drop_eq_getElem_cons hil, encLL]
    simp only [encN, List.append_nil, List.append_assoc]
theorem respenc_is (k c : Nat) (L : List (List Nat)) (t : List UInt8) (hc : c ≤ 255) (hL : SmL L) (ht : t.length ≤ 100000) (hk : 4000 < k) :
    request_Response_Encode.f k (c : Int) (toLL L) (mkS t) = some (mkS (respB c L t)) := by
  have h8 := hL.1
  have h1 := numsB_is k [c] (by simp) (fun y hy => by rw [List.mem_singleton] at hy; omega) (by simp; omega)
  have h2 := numsB_is k [L.length] (by simp) (fun y hy => by rw [List.mem_singleton] at hy; omega) (by simp; omega)
  have e1 := enc_len_u64 (x := c) (by omega)
  have e2 := enc_len_u64 (x := L.length) (by omega)
  unfold request_Response_Encode.f respB
  rw [show ([(c : Int)] : List Int) = toI [c] from rfl, h1, Option.bind_some]
  by_cases hz : c = 0
  · rw [if_pos (by omega), if_pos hz, toLL_len, show ([(L.length : Int)] : List Int) = toI [L.length] from rfl, h2, Option.bind_some, if_pos (by rw [size_mk, size_mk]; simp only [encN, List.append_nil]; omega), append_mk]
    have := resp_loop L hL t ht (c : Int) (L.length - 0) k 0 (encN [c] ++ encN [L.length]) rfl (by omega) (by simp only [encN, List.append_nil, List.length_append]; omega) (by omega)
    refine this.trans ?_
    simp only [encN, List.append_nil, List.append_assoc, List.drop_zero]
  · rw [if_neg (by omega), if_neg hz]
    simp only [encN, List.append_nil]
/-! Reading. -/
theorem rNum_less (l : List UInt8) (m : Nat) (h : (rNum l 0 m).2.2 = 0) : (rNum l 0 m).2.1.length < l.length := by
  obtain ⟨e1, _⟩ := rNum_head l m h
  have h1 := enc_len_pos (rNum l 0 m).1
  have h2 := congrArg List.length e1
  rw [List.length_append] at h2
  omega
def rdL : Nat → List UInt8 → List Nat → List Nat × List UInt8 × Int
  | 0, l, acc => (acc, l, 0)
  | c + 1, l, acc => if (rNum l 0 2147483647).2.2 = 0 then rdL c (rNum l 0 2147483647).2.1 (acc ++ [(rNum l 0 2147483647).1]) else ([], [], (rNum l 0 2147483647).2.2)
def rdLL : Nat → List UInt8 → List (List Nat) → List (List Nat) × List UInt8 × Int
  | 0, l, acc => (acc, l, 0)
  | n + 1, l, acc => if (rNum l 0 2147483647).2.2 = 0 then (if (rdL (rNum l 0 2147483647).1 (rNum l 0 2147483647).2.1 []).2.2 = 0 then rdLL n (rdL (rNum l 0 2147483647).1 (rNum l 0 2147483647).2.1 []).2.1 (acc ++ [(rdL (rNum l 0 2147483647).1 (rNum l 0 2147483647).2.1 []).1])
      else ([], [], (rdL (rNum l 0 2147483647).1 (rNum l 0 2147483647).2.1 []).2.2)) else ([], [], (rNum l 0 2147483647).2.2)
def errP (e : Int) : Nat × List (List Nat) × List UInt8 × Int := (0, [], [], e)
def finP (c : Nat) (L : List (List Nat)) (t : List UInt8 × List UInt8 × Int) : Nat × List (List Nat) × List UInt8 × Int :=
  if t.2.2 = 0 then (if t.2.1 = [] then (c, L, t.1, 0) else errP 3) else errP t.2.2
def endP (q : List (List Nat) × List UInt8 × Int) : Nat × List (List Nat) × List UInt8 × Int := if q.2.2 = 0 then finP 0 q.1 (rText q.2.1 0 65536) else errP q.2.2
def parL (l : List UInt8) : Nat × List (List Nat) × List UInt8 × Int :=
  if (rNum l 0 255).2.2 = 0 then
    (if (rNum l 0 255).1 = 0 then
      (if (rNum (rNum l 0 255).2.1 0 2147483647).2.2 = 0 then (if 8 < (rNum (rNum l 0 255).2.1 0 2147483647).1 then errP 4 else endP (rdLL (rNum (rNum l 0 255).2.1 0 2147483647).1 (rNum (rNum l 0 255).2.1 0 2147483647).2.1 []))
        else errP (rNum (rNum l 0 255).2.1 0 2147483647).2.2)
      else (if (rNum l 0 255).2.1 = [] then ((rNum l 0 255).1, [], [], 0) else errP 3))
  else errP (rNum l 0 255).2.2
def tupP (r : Nat × List (List Nat) × List UInt8 × Int) : Int × List (List Int) × ByteArray × Int := ((r.1 : Int), toLL r.2.1, mkS r.2.2.1, r.2.2.2)
theorem parj4_is (k : Nat) (l : List UInt8) (e : Int) (he : e = 0 ∨ l = []) (hl : l.length ≤ 100000) (c : Nat) (L : List (List Nat)) (hk : 400000 < k) :
    request_Parse.j4 k (mkS l) e (c : Int) (toLL L) (⟨#[]⟩ : ByteArray) = some (tupP (if e = 0 then finP c L (rText l 0 65536) else errP e)) := by
  obtain ⟨k, rfl⟩ : ∃ m, k = m + 1 := ⟨k - 1, by omega⟩
  rw [request_Parse.j4, intext_is k (mkS l) e 65536 (by rw [lst_mk]; exact he) (by rw [size_mk]; omega) (by rw [size_mk]; omega) (by omega), lst_mk, Option.bind_some]
  unfold finP
  by_cases h0 : e = 0
  · subst h0
    have hb := rText_left l 0 65536 (.inl rfl)
    rw [if_pos rfl]
    by_cases h2 : (rText l 0 65536).2.1 = []
    · show ((varint_In_End.f (mkS (rText l 0 65536).2.1) (rText l 0 65536).2.2).bind fun bt => _) = _
      rw [h2, end_nil, Option.bind_some]
      by_cases h1 : (rText l 0 65536).2.2 = 0
      · rw [if_pos h1, if_pos h1, if_pos rfl]; rfl
      · rw [if_neg h1, if_neg h1]; rfl
    · have h1 : (rText l 0 65536).2.2 = 0 := by rcases hb with h | h; exact h; exact absurd h h2
      show ((varint_In_End.f (mkS (rText l 0 65536).2.1) (rText l 0 65536).2.2).bind fun bt => _) = _
      rw [end_more h2, Option.bind_some, if_neg (show ¬ (3 : Int) = 0 by decide), if_pos h1, if_neg h2]; rfl
  · have h2 : l = [] := by rcases he with h | h; exact absurd h h0; exact h
    subst h2
    rw [rText_err e 65536 h0, if_neg h0]
    show ((varint_In_End.f (mkS []) e).bind fun bt => _) = _
    rw [end_nil, Option.bind_some, if_neg h0]; rfl
theorem u64_pred {c : Nat} (h : c ≤ 2147483647) : IntKind.u64.wrap (((c + 1 : Nat) : Int) - 1) = (c : Int) := by
  rw [show ((c + 1 : Nat) : Int) - 1 = (c : Int) by omega]; exact u64_in (by omega) (by omega)
theorem u64_succ {c : Nat} (h : c ≤ 2147483647) : IntKind.u64.wrap ((c : Int) + 1) = ((c + 1 : Nat) : Int) := by
  rw [show (c : Int) + 1 = ((c + 1 : Nat) : Int) by omega]; exact u64_in (by omega) (by omega)
theorem parl1_is (n i : Int) (c : Nat) (L : List (List Nat)) (hL : L.length ≤ 8) (K0 : Nat) (hK : 400000 < K0) (V : List UInt8 → List Nat → Nat × List (List Nat) × List UInt8 × Int)
    (H : ∀ (k : Nat) (l : List UInt8) (a : List Nat), K0 ≤ k → l.length ≤ 100000 → request_Parse.l0 k n (IntKind.u64.wrap (i + 1)) (mkS l) 0 (c : Int) (toLL (L ++ [a])) (⟨#[]⟩ : ByteArray) = some (tupP (V l a))) (d : Nat) :
    ∀ (k q : Nat) (l : List UInt8) (acc : List Nat), l.length ≤ d → d ≤ 100000 → q ≤ 2147483647 → acc.length + d ≤ 200000 → K0 + d + 2 ≤ k →
    request_Parse.l1 k (toI acc) (q : Int) n i (mkS l) 0 (c : Int) (toLL L) (⟨#[]⟩ : ByteArray) = some (tupP (if (rdL q l acc).2.2 = 0 then V (rdL q l acc).2.1 (rdL q l acc).1 else errP (rdL q l acc).2.2)) := by
  induction d with
  | zero =>
    intro k q l acc hl hd hq ha hk
    obtain ⟨k, rfl⟩ : ∃ m, k = m + 1 := ⟨k - 1, by omega⟩
    obtain rfl : l = [] := List.length_eq_zero_iff.1 (by omega)
    cases q with
    | zero =>
      rw [request_Parse.l1, if_neg (by omega), if_pos (by rw [toLL_len]; omega), rdL, if_pos rfl, show toLL L ++ [toI acc] = toLL (L ++ [acc]) from by rw [toLL_append]; rfl]
      exact H k [] acc (by omega) (by simp)
    | succ q =>
      have hin := innum_is k (mkS []) 0 2147483647 (by rw [size_mk]; simp) (by rw [size_mk]; simp; omega)
      rw [show ((2147483647 : Nat) : Int) = 2147483647 from rfl, lst_mk] at hin
      have he : ¬ (rNum [] 0 2147483647).2.2 = 0 := fun h => by have := rNum_less [] _ h; simp at this
      have hz := rNum_bad [] 2147483647 he
      have hl2 : (rNum [] 0 2147483647).2.1 = [] := by rw [hz]
      rw [request_Parse.l1, if_pos (by omega), hin, Option.bind_some, if_pos (by rw [toI_len]; omega), rdL, if_neg he]
      simp only [err_is, Option.bind_some]
      rw [if_neg he, hl2, parj4_is k [] _ (.inr rfl) (by simp) c L (by omega), if_neg he, if_neg he]
  | succ d ih =>
    intro k q l acc hl hd hq ha hk
    obtain ⟨k, rfl⟩ : ∃ m, k = m + 1 := ⟨k - 1, by omega⟩
    cases q with
    | zero =>
      rw [request_Parse.l1, if_neg (by omega), if_pos (by rw [toLL_len]; omega), rdL, if_pos rfl, show toLL L ++ [toI acc] = toLL (L ++ [acc]) from by rw [toLL_append]; rfl]
      exact H k l acc (by omega) (by omega)
    | succ q =>
      have hin := innum_is k (mkS l) 0 2147483647 (by rw [size_mk]; omega) (by rw [size_mk]; omega)
      rw [show ((2147483647 : Nat) : Int) = 2147483647 from rfl, lst_mk] at hin
      have hr := rNum_lt l 0 2147483647
      rw [request_Parse.l1, if_pos (by omega), hin, Option.bind_some, if_pos (by rw [toI_len]; omega), rdL]
      simp only [err_is, Option.bind_some]
      by_cases he : (rNum l 0 2147483647).2.2 = 0
      · have hs := rNum_less l _ he
        rw [if_pos he, if_pos he, he, w_small (by omega), u64_pred (by omega), show toI acc ++ [((rNum l 0 2147483647).1 : Int)] = toI (acc ++ [(rNum l 0 2147483647).1]) from by rw [toI_append]; rfl]
        exact ih k q _ _ (by omega) (by omega) (by omega) (by rw [List.length_append, List.length_singleton]; omega) (by omega)
      · have hz := rNum_bad l 2147483647 he
        have hl2 : (rNum l 0 2147483647).2.1 = [] := by rw [hz]
        rw [if_neg he, if_neg he, hl2, parj4_is k [] _ (.inr rfl) (by simp) c L (by omega), if_neg he, if_neg he]
theorem parl0_err (e : Int) (he : e ≠ 0) (n : Nat) (hn : n ≤ 8) (c : Nat) (d : Nat) : ∀ (k i : Nat) (L : List (List Nat)), n - i = d → i ≤ n → L.length ≤ i → 400100 + 2 * d < k →
    request_Parse.l0 k (n : Int) (i : Int) (mkS []) e (c : Int) (toLL L) (⟨#[]⟩ : ByteArray) = some (tupP (errP e)) := by
  induction d with
  | zero =>
    intro k i L hd hi hL hk
    obtain ⟨k, rfl⟩ : ∃ m, k = m + 1 := ⟨k - 1, by omega⟩
    rw [request_Parse.l0, if_neg (by omega), parj4_is k [] e (.inr rfl) (by simp) c L (by omega), if_neg he]
  | succ d ih =>
    intro k i L hd hi hL hk
    obtain ⟨k, rfl⟩ : ∃ m, k = m + 2 := ⟨k - 2, by omega⟩
    have hin := innum_is (k + 1) (mkS []) e 2147483647 (by rw [size_mk]; simp) (by rw [size_mk]; simp)
    rw [show ((2147483647 : Nat) : Int) = 2147483647 from rfl, lst_mk, rNum_err [] e _ he] at hin
    rw [request_Parse.l0, if_pos (by omega), hin, Option.bind_some, request_Parse.l1, if_neg (by simp), if_pos (by rw [toLL_len]; omega), u64_succ (by omega), show toLL L ++ [([] : List Int)] = toLL (L ++ [[]]) from by rw [toLL_append]; rfl]
    exact ih k (i + 1) _ (by omega) (by omega) (by rw [List.length_append, List.length_singleton]; omega) (by omega)
theorem parl0_is (n : Nat) (hn : n ≤ 8) (d : Nat) : ∀ (k i : Nat) (l : List UInt8) (L : List (List Nat)), n - i = d → i ≤ n → l.length ≤ 100000 → L.length ≤ i → 500000 + 100010 * d < k →
    request_Parse.l0 k (n : Int) (i : Int) (mkS l) 0 0 (toLL L) (⟨#[]⟩ : ByteArray) = some (tupP (endP (rdLL (n - i) l L))) := by
  induction d with
  | zero =>
    intro k i l L hd hi hl hL hk
    obtain ⟨k, rfl⟩ : ∃ m, k = m + 1 := ⟨k - 1, by omega⟩
    have := parj4_is k l 0 (.inl rfl) hl 0 L (by omega)
    rw [show ((0 : Nat) : Int) = 0 from rfl, if_pos rfl] at this
    rw [request_Parse.l0, if_neg (by omega), this, hd, rdLL]
    rfl
  | succ d ih =>
    intro k i l L hd hi hl hL hk
    have hK : 400000 < 500000 + 100010 * d + 1 := Nat.lt_of_lt_of_le (by decide : 400000 < 500000) (by rw [Nat.add_assoc]; exact Nat.le_add_right _ _)
    obtain ⟨k, rfl⟩ : ∃ m, k = m + 1 := ⟨k - 1, by omega⟩
    have hin := innum_is k (mkS l) 0 2147483647 (by rw [size_mk]; omega) (by rw [size_mk]; omega)
    rw [show ((2147483647 : Nat) : Int) = 2147483647 from rfl, lst_mk] at hin
    have hr := rNum_lt l 0 2147483647
    rw [request_Parse.l0, if_pos (by omega), hin, Option.bind_some, show n - i = (n - (i + 1)) + 1 by omega, rdLL]
    by_cases he : (rNum l 0 2147483647).2.2 = 0
    · rw [if_pos he]
      have h1 := parl1_is (n : Int) (i : Int) 0 L (by omega) (500000 + 100010 * d + 1) hK (fun l a => endP (rdLL (n - (i + 1)) l (L ++ [a]))) (fun k l a hk hl => by
        rw [u64_succ (by omega)]
        exact ih k (i + 1) l (L ++ [a]) (by omega) (by omega) hl (by rw [List.length_append, List.length_singleton]; omega) (by omega))
        100000 k (rNum l 0 2147483647).1 (rNum l 0 2147483647).2.1 [] (by omega) (by omega) (by omega) (by simp) (by omega)
      rw [show toI [] = ([] : List Int) from rfl, show ((0 : Nat) : Int) = 0 from rfl] at h1
      rw [he, h1]
      by_cases h2 : (rdL (rNum l 0 2147483647).1 (rNum l 0 2147483647).2.1 []).2.2 = 0
      · rw [if_pos h2, if_pos h2]
      · rw [if_neg h2, if_neg h2]
        unfold endP
        rw [if_neg h2]
    · have hz := rNum_bad l 2147483647 he
      rw [if_neg he]
      obtain ⟨k, rfl⟩ : ∃ m, k = m + 1 := ⟨k - 1, by omega⟩
      have hx : (rNum l 0 2147483647).1 = 0 := by rw [hz]
      have hl2 : (rNum l 0 2147483647).2.1 = [] := by rw [hz]
      rw [hx, hl2, request_Parse.l1, if_neg (by simp), if_pos (by rw [toLL_len]; omega), u64_succ (by omega), show toLL L ++ [([] : List Int)] = toLL (L ++ [[]]) from by rw [toLL_append]; rfl]
      have := parl0_err _ he n hn 0 (n - (i + 1)) k (i + 1) (L ++ [[]]) rfl (by omega) (by rw [List.length_append, List.length_singleton]; omega) (by omega)
      rw [show ((0 : Nat) : Int) = 0 from rfl] at this
      rw [this]
      unfold endP
      rw [if_neg he]
theorem par_is (k : Nat) (l : List UInt8) (hl : l.length ≤ 100000) (hk : 2000000 < k) : request_Parse.f k (mkS l) = some (tupP (parL l)) := by
  obtain ⟨k, rfl⟩ : ∃ m, k = m + 2 := ⟨k - 2, by omega⟩
  have hin := innum_is (k + 2) (mkS l) 0 255 (by rw [size_mk]; omega) (by rw [size_mk]; omega)
  rw [show ((255 : Nat) : Int) = 255 from rfl, lst_mk] at hin
  have hr := rNum_lt l 0 255
  have hlf := rNum_left l 0 255 (.inl rfl)
  unfold request_Parse.f parL
  simp only [varint_Of.f, Option.bind_some]
  rw [hin]
  simp only [Option.bind_some, err_is]
  generalize rNum l 0 255 = R at hr hlf ⊢
  obtain ⟨x, l1, e⟩ := R
  simp only at hr hlf ⊢
  rw [w_small (by omega)]
  by_cases he : e = 0
  · subst he
    rw [if_pos rfl, if_pos rfl]
    by_cases hx : x = 0
    · subst hx
      have hin2 := innum_is (k + 1) (mkS l1) 0 2147483647 (by rw [size_mk]; omega) (by rw [size_mk]; omega)
      rw [show ((2147483647 : Nat) : Int) = 2147483647 from rfl, lst_mk] at hin2
      have hr2 := rNum_lt l1 0 2147483647
      have hlf2 := rNum_left l1 0 2147483647 (.inl rfl)
      have hbad2 := rNum_bad l1 2147483647
      rw [request_Parse.j0, if_pos (by decide), if_pos rfl, hin2, Option.bind_some]
      generalize rNum l1 0 2147483647 = N at hr2 hlf2 hbad2 ⊢
      obtain ⟨n, l2, e2⟩ := N
      simp only at hr2 hlf2 hbad2 ⊢
      by_cases h8 : 8 < n
      · rw [if_pos (by omega), fail_is, Option.bind_some]
        by_cases he2 : e2 = 0
        · subst he2
          have hf : rFail (lst (mkS l2)) 0 4 = ([], 4) := by unfold rFail; rw [if_pos rfl, if_neg (by decide)]
          rw [hf, if_pos rfl, if_pos h8, request_Parse.j1]
          have := parl0_err 4 (by decide) 0 (by omega) 0 0 k 0 [] rfl (by omega) (by simp) (by omega)
          exact this
        · have := congrArg Prod.fst (hbad2 he2)
          simp only at this
          omega
      · rw [if_neg (by omega), request_Parse.j1]
        by_cases he2 : e2 = 0
        · subst he2
          rw [if_pos rfl, if_neg h8]
          have := parl0_is n (by omega) (n - 0) k 0 l2 [] rfl (by omega) (by omega) (by simp) (by omega)
          exact this
        · rw [if_neg he2]
          have h2 : l2 = [] := by rcases hlf2 with h | h; exact absurd h he2; exact h
          subst h2
          have := parl0_err e2 he2 n (by omega) 0 (n - 0) k 0 [] rfl (by omega) (by simp) (by omega)
          exact this
    · rw [if_neg hx, request_Parse.j0, if_neg (by simp; omega)]
      by_cases h3 : l1 = []
      · subst h3
        rw [end_nil, Option.bind_some, if_pos rfl, if_pos rfl]; rfl
      · rw [end_more h3, Option.bind_some, if_neg (show ¬ (3 : Int) = 0 by decide), if_neg h3]; rfl
  · rw [if_neg he, if_neg he, request_Parse.j0, if_neg (by decide)]
    have h1 : l1 = [] := by rcases hlf with h | h; exact absurd h he; exact h
    subst h1
    rw [end_nil, Option.bind_some, if_neg he]; rfl
end Go.Proofs.YtkpjkgfaepidaaaDoor.PC

/- The document's Parse is the same plain reading; what is read without an error may be, and has just these bytes; a copy is alike; the fixed fact ahead of each law. Conditions: at most 1000 bytes. -/
namespace Go.Proofs.YtkpjkgfaepidaaaDoor.PC
open Go.RowKit Go.Proofs.YtkpjkgfaepidaaaDoorW.PrintWords Go.Proofs.YtkpjkgfaepidaaaDoorW.PrintLast Go.Proofs.YtkpjkgfaepidaaaDoorW.PrintMore Go.Proofs.YtkpjkgfaepidaaaDoor.VarPlain Go.Proofs.YtkpjkgfaepidaaaDoor.Tools Go.Proofs.YtkpjkgfaepidaaaDoor.Glob
set_option linter.unusedVariables false
/-! What was read without an error. -/
/-! A copy, alike; may it be. -/
theorem own_loop (L : List (List Int)) (hL : L.length ≤ 1000) (hm : ∀ l ∈ L, l.length ≤ 100000) (c : Int) (t : ByteArray) (d : Nat) : ∀ (k i : Nat), L.length - i = d → i ≤ L.length → d < k →
    dowserlaw28_OwnAnswer.l0 k L (L.length : Int) (i : Int) c (L.take i) t = some (c, L, t) := by
  induction d with
  | zero =>
    intro k i hd hi hk
    obtain ⟨k, rfl⟩ : ∃ m, k = m + 1 := ⟨k - 1, by omega⟩
    rw [dowserlaw28_OwnAnswer.l0, if_neg (by omega), List.take_of_length_le (by omega)]
  | succ d ih =>
    intro k i hd hi hk
    obtain ⟨k, rfl⟩ : ∃ m, k = m + 1 := ⟨k - 1, by omega⟩
    have hil : i < L.length := by omega
    have hx := hm L[i] (List.getElem_mem hil)
    have hrd : rd_L2 L (i : Int) = L[i] := request_lists.at_ L i hil
    rw [dowserlaw28_OwnAnswer.l0, if_pos (by omega), if_pos (by omega), if_pos (by omega), Option.bind_some, hrd, if_pos (by rw [List.length_nil]; omega), if_pos (by rw [List.length_take]; omega), List.nil_append,
      show wrap64 ((i : Int) + 1) = ((i + 1 : Nat) : Int) from by unfold wrap64; omega, ← List.take_succ_eq_append_getElem hil]
    exact ih k (i + 1) (by omega) (by omega) (by omega)
theorem own28_is (k : Nat) (c : Int) (L : List (List Int)) (t : ByteArray) (hL : L.length ≤ 1000) (hm : ∀ l ∈ L, l.length ≤ 100000) (hk : 1000 < k) : dowserlaw28_OwnAnswer.f k c L t = some (c, L, t) :=
  own_loop L hL hm c t L.length k 0 (by omega) (by omega) (by omega)
theorem same28_is (c d : Int) (L M : List (List Int)) (t u : ByteArray) : request_Same.f c L t d M u = some (decide (c = d ∧ t = u ∧ L = M)) := by
  unfold request_Same.f lists_same.f
  by_cases h1 : c = d
  · rw [if_pos h1]
    by_cases h2 : t.toList = u.toList
    · have h3 : t = u := lst_inj (by rw [← toList_lst, ← toList_lst, h2])
      rw [if_pos h2, Option.bind_some]
      simp [h1, h3]
    · have h3 : ¬ t = u := fun h => h2 (by rw [h])
      rw [if_neg h2]
      simp [h3]
  · rw [if_neg h1]
    simp [h1]
/-! The fixed fact. -/
theorem awake28_is (k : Nat) (hk : 2000000 < k) : dowserlaw28_awake.f k = some true := by
  have r1 := reqenc_is k 5 [1, 2] [] (by omega) (by simp) (fun x hx => by simp at hx; omega) (by simp) (by omega)
  have b1 : reqB 5 [1, 2] [] = [5, 1, 2] := by unfold reqB; simp [encN, enc_small]
  rw [b1] at r1
  have d1 : decL [5, 1, 2] = (5, [1, 2], [], 0) := by decide +kernel
  have r2 := dec_is k [5, 1, 2] (by simp) (by omega)
  rw [d1] at r2
  have r3 := respenc_is k 0 [[7]] [] (by omega) ⟨by simp, fun l hl => by rw [List.mem_singleton] at hl; subst hl; exact ⟨fun x hx => by simp at hx; omega, by simp⟩⟩ (by simp) (by omega)
  have b3 : respB 0 [[7]] [] = [0, 1, 1, 7, 0] := by unfold respB; simp [encLL, encN, encT, enc_small]
  rw [b3] at r3
  have d3 : parL [0, 1, 1, 7, 0] = (0, [[7]], [], 0) := by decide +kernel
  have r4 := par_is k [0, 1, 1, 7, 0] (by simp) (by omega)
  rw [d3] at r4
  unfold dowserlaw28_awake.f
  have q1 : request_Request_Encode.f k 5 [1, 2] (⟨#[]⟩ : ByteArray) = some (mkS [5, 1, 2]) := r1
  have q3 : request_Response_Encode.f k 0 [[7]] (⟨#[]⟩ : ByteArray) = some (mkS [0, 1, 1, 7, 0]) := r3
  rw [q1, Option.bind_some, r2, Option.bind_some, q3, Option.bind_some, r4, Option.bind_some, same28_is, Option.bind_some, if_pos ?_]
  refine ⟨by rw [toList_lst]; rfl, by rw [toList_lst]; rfl, rfl, rfl, rfl, ?_⟩
  rw [decide_eq_true_eq]
  exact ⟨rfl, rfl, rfl⟩
end Go.Proofs.YtkpjkgfaepidaaaDoor.PC

-- Cut of the first law package
namespace Go.Proofs.YtkpjkgfaepidaaaDoor.PC
open Go.RowKit Go.Proofs.YtkpjkgfaepidaaaDoorW.PrintWords Go.Proofs.YtkpjkgfaepidaaaDoorW.PrintLast Go.Proofs.YtkpjkgfaepidaaaDoorW.PrintMore Go.Proofs.YtkpjkgfaepidaaaDoor.VarPlain
theorem cut_is (s : ByteArray) (n : Nat) : dowserlaw01_Cut.f s (n : Int) = some (mkS ((lst s).take n)) := by
  unfold dowserlaw01_Cut.f
  by_cases h : (s.size : Int) > n
  · have h2 : (n : Int) ≤ (s.size : Int) := by omega
    rw [if_pos h, if_pos (Int.natCast_nonneg _), if_pos h2, Int.toNat_natCast, extract_to]
  · rw [if_neg h, List.take_of_length_le (by rw [← size_lst]; omega)]; rfl
theorem cut_len (s : ByteArray) (n : Nat) : (mkS ((lst s).take n)).size ≤ n := by rw [size_mk, List.length_take]; omega
end Go.Proofs.YtkpjkgfaepidaaaDoor.PC

/- Which responses may be: the program's Check and the document's Fine say the same; the document's bytes are the program's, and they are read back. Conditions: at most 8 lists of at most 2000 numbers, texts of at most 65538 bytes. -/
namespace Go.Proofs.YtkpjkgfaepidaaaDoor.PC
open Go.RowKit Go.Proofs.YtkpjkgfaepidaaaDoorW.PrintWords Go.Proofs.YtkpjkgfaepidaaaDoorW.PrintLast Go.Proofs.YtkpjkgfaepidaaaDoorW.PrintMore Go.Proofs.YtkpjkgfaepidaaaDoor.VarPlain Go.Proofs.YtkpjkgfaepidaaaDoor.Tools Go.Proofs.YtkpjkgfaepidaaaDoor.Glob
set_option linter.unusedVariables false
def OKr (c : Int) (L : List (List Int)) (t : List UInt8) : Prop := 0 ≤ c ∧ c ≤ 255 ∧ L.length ≤ 8 ∧ t.length ≤ 65536 ∧ L.all request_lists.p_ = true ∧ (c = 0 ∨ (L = [] ∧ t = []))
theorem w_one {i n : Nat} (h : i < n) (hn : n ≤ 100000) : wrap64 ((i : Int) + 1) = ((i + 1 : Nat) : Int) := by unfold wrap64; omega
theorem numsref_loop (l : List Int) (hl : l.length ≤ 100000) (d : Nat) : ∀ (k i : Nat), l.length - i = d → i ≤ l.length → d < k → dowserref28_numbers.l0 k l (l.length : Int) (i : Int) = some ((l.drop i).all request_numbers.p_) := by
  induction d with
  | zero =>
    intro k i hd hi hk
    obtain ⟨k, rfl⟩ : ∃ m, k = m + 1 := ⟨k - 1, by omega⟩
    rw [dowserref28_numbers.l0, if_neg (by omega), List.drop_of_length_le (by omega)]; rfl
  | succ d ih =>
    intro k i hd hi hk
    obtain ⟨k, rfl⟩ : ∃ m, k = m + 1 := ⟨k - 1, by omega⟩
    have hil : i < l.length := by omega
    rw [dowserref28_numbers.l0, if_pos (by omega), if_pos (by omega), if_pos (by omega), request_numbers.at_ l i hil, List.drop_eq_getElem_cons hil, List.all_cons]
    unfold request_numbers.p_
    by_cases h0 : l[i] < 0
    · rw [if_pos h0, decide_eq_false (show ¬ 0 ≤ l[i] by omega)]; simp
    · by_cases h1 : l[i] > 2147483647
      · rw [if_neg h0, if_pos h1, decide_eq_false (show ¬ l[i] ≤ 2147483647 by omega)]; simp
      · rw [if_neg h0, if_neg h1, decide_eq_true (show 0 ≤ l[i] by omega), decide_eq_true (show l[i] ≤ 2147483647 by omega), w_one hil hl]
        exact ih k (i + 1) (by omega) (by omega) (by omega)
theorem numsref_is (k : Nat) (l : List Int) (hl : l.length ≤ 2000) (hk : 2000 < k) : dowserref28_numbers.f k l = some (request_lists.p_ l) := by
  have := numsref_loop l (by omega) l.length k 0 (by omega) (by omega) (by omega)
  rw [List.drop_zero] at this
  exact this
theorem fine_loop (L : List (List Int)) (hL : L.length ≤ 8) (hm : ∀ l ∈ L, l.length ≤ 2000) (c : Int) (t : List UInt8) (d : Nat) : ∀ (k i : Nat), L.length - i = d → i ≤ L.length → 3000 + d < k →
    dowserref28_Fine.l0 k L (L.length : Int) (i : Int) c L (mkS t) = some ((L.drop i).all request_lists.p_ && (decide (c = 0) || (decide (L = []) && decide (t = [])))) := by
  induction d with
  | zero =>
    intro k i hd hi hk
    obtain ⟨k, rfl⟩ : ∃ m, k = m + 1 := ⟨k - 1, by omega⟩
    rw [dowserref28_Fine.l0, if_neg (by omega), List.drop_of_length_le (by omega)]
    by_cases h0 : c = 0
    · rw [if_pos h0]; simp [h0]
    · rw [if_neg h0]
      by_cases h1 : L = []
      · subst h1
        rw [if_pos (by simp), toList_lst, lst_mk]
        by_cases h2 : t = []
        · subst h2; simp
        · have : (t == []) = false := by rw [beq_eq_false_iff_ne]; exact h2
          rw [this]; simp [h0, h2]
      · have h2 : ¬ (L.length : Int) = 0 := by
          have := List.length_pos_iff.2 h1
          omega
        rw [if_neg h2]; simp [h0, h1]
  | succ d ih =>
    intro k i hd hi hk
    obtain ⟨k, rfl⟩ : ∃ m, k = m + 1 := ⟨k - 1, by omega⟩
    have hil : i < L.length := by omega
    rw [dowserref28_Fine.l0, if_pos (by omega), if_pos (by omega), if_pos (by omega), request_lists.at_ L i hil, numsref_is k L[i] (hm _ (List.getElem_mem hil)) (by omega), Option.bind_some, List.drop_eq_getElem_cons hil, List.all_cons]
    cases hp : request_lists.p_ L[i] with
    | true =>
      rw [if_pos rfl, w_one hil (by omega), ih k (i + 1) (by omega) (by omega) (by omega), Bool.true_and]
    | false => rw [if_neg (by decide), Bool.false_and, Bool.false_and]
theorem fine_is (k : Nat) (c : Int) (L : List (List Int)) (t : List UInt8) (hm : ∀ l ∈ L, l.length ≤ 2000) (ht : t.length ≤ 100000) (hk : 4000 < k) : (OKr c L t → dowserref28_Fine.f k c L (mkS t) = some true) ∧ (¬ OKr c L t → dowserref28_Fine.f k c L (mkS t) = some false) := by
  obtain ⟨k, rfl⟩ : ∃ m, k = m + 1 := ⟨k - 1, by omega⟩
  have hno : dowserref28_Fine.j0 (k + 1) true c L (mkS t) = some false := by rw [dowserref28_Fine.j0, if_pos rfl]
  unfold dowserref28_Fine.f OKr
  by_cases h0 : c < 0
  · rw [if_pos h0]; exact ⟨fun h => by omega, fun _ => hno⟩
  by_cases h1 : c > 255
  · rw [if_neg h0, if_pos h1]; exact ⟨fun h => by omega, fun _ => hno⟩
  by_cases h2 : (L.length : Int) > 8
  · rw [if_neg h0, if_neg h1, if_pos h2]; exact ⟨fun h => by omega, fun _ => hno⟩
  rw [if_neg h0, if_neg h1, if_neg h2, size_mk]
  by_cases h3 : (t.length : Int) > 65536
  · rw [decide_eq_true h3]; exact ⟨fun h => by omega, fun _ => hno⟩
  rw [decide_eq_false h3, dowserref28_Fine.j0, if_neg (by decide)]
  have hl := fine_loop L (by omega) hm c t L.length k 0 (by omega) (by omega) (by omega)
  rw [show ((0 : Nat) : Int) = 0 from rfl, List.drop_zero] at hl
  rw [hl]
  refine ⟨fun h => ?_, fun h => ?_⟩
  · obtain ⟨_, _, _, _, a, b⟩ := h
    rw [a]
    rcases b with b | ⟨b1, b2⟩
    · simp [b]
    · simp [b1, b2]
  · refine congrArg some ?_
    rw [Bool.and_eq_false_iff]
    by_cases a : L.all request_lists.p_ = true
    · right
      have b : ¬ (c = 0 ∨ (L = [] ∧ t = [])) := fun b => h ⟨by omega, by omega, by omega, by omega, a, b⟩
      rw [Bool.or_eq_false_iff, Bool.and_eq_false_iff]
      refine ⟨decide_eq_false (fun e => b (.inl e)), ?_⟩
      by_cases e : L = []
      · exact .inr (decide_eq_false (fun e2 => b (.inr ⟨e, e2⟩)))
      · exact .inl (decide_eq_false e)
    · left; exact Bool.eq_false_iff.mpr a
/-- One that may be, in plain numbers. -/
theorem OKr.nat {c : Int} {L : List (List Int)} {t : List UInt8} (h : OKr c L t) (hm : ∀ l ∈ L, l.length ≤ 2000) : ∃ (n : Nat) (M : List (List Nat)), c = (n : Int) ∧ L = toLL M ∧ n ≤ 255 ∧ SmL M ∧ t.length ≤ 65536 ∧ (n = 0 ∨ (M = [] ∧ t = [])) := by
  obtain ⟨h0, h1, h2, h3, h4, h5⟩ := h
  refine ⟨c.toNat, L.map fun l => l.map Int.toNat, by omega, ?_, by omega, ⟨by rw [List.length_map]; exact h2, fun m hm' => ?_⟩, h3, ?_⟩
  · have hI : ∀ l ∈ L, toI (l.map Int.toNat) = l := fun l hl => by
      unfold toI
      rw [List.map_map]
      refine (List.map_congr_left (g := id) (fun x hx => ?_)).trans (List.map_id _)
      have := List.all_eq_true.1 (List.all_eq_true.1 h4 l hl) x hx
      unfold request_numbers.p_ at this
      rw [Bool.and_eq_true, decide_eq_true_eq, decide_eq_true_eq] at this
      show ((x.toNat : Nat) : Int) = x
      omega
    unfold toLL
    rw [List.map_map]
    exact ((List.map_congr_left (g := id) (fun l hl => hI l hl)).trans (List.map_id _)).symm
  · obtain ⟨l, hl, rfl⟩ := List.mem_map.1 hm'
    refine ⟨fun x hx => ?_, by rw [List.length_map]; exact hm l hl⟩
    obtain ⟨y, hy, rfl⟩ := List.mem_map.1 hx
    have := List.all_eq_true.1 (List.all_eq_true.1 h4 l hl) y hy
    unfold request_numbers.p_ at this
    rw [Bool.and_eq_true, decide_eq_true_eq, decide_eq_true_eq] at this
    omega
  · rcases h5 with h5 | ⟨h5, h6⟩
    · left; omega
    · right; subst h5; exact ⟨rfl, h6⟩
/-! The document's bytes, and back. -/
theorem rdL_enc : ∀ (ns : List Nat) (rest : List UInt8) (acc : List Nat), Low ns → rdL ns.length (encN ns ++ rest) acc = (acc ++ ns, rest, 0)
  | [], rest, acc, _ => by simp [rdL, encN]
  | x :: ns, rest, acc, h => by
    have hx := h x (by simp)
    rw [List.length_cons, rdL, encN, List.append_assoc, rNum_enc x _ 2147483647 (by omega) hx]
    simp only [if_true]
    rw [rdL_enc ns rest _ (fun q hq => h q (List.mem_cons_of_mem _ hq)), List.append_assoc]; rfl
theorem rdLL_enc : ∀ (L : List (List Nat)) (rest : List UInt8) (acc : List (List Nat)), (∀ m ∈ L, Low m ∧ m.length ≤ 2000) → rdLL L.length (encLL L ++ rest) acc = (acc ++ L, rest, 0)
  | [], rest, acc, _ => by simp [rdLL, encLL]
  | m :: L, rest, acc, h => by
    obtain ⟨m1, m2⟩ := h m (by simp)
    rw [List.length_cons, rdLL, encLL, List.append_assoc, List.append_assoc, rNum_enc m.length _ 2147483647 (by omega) (by omega)]
    simp only [if_true]
    rw [rdL_enc m _ [] m1]
    simp only [if_true, List.nil_append]
    rw [rdLL_enc L rest _ (fun q hq => h q (List.mem_cons_of_mem _ hq)), List.append_assoc]; rfl
theorem parL_resp (n : Nat) (L : List (List Nat)) (t : List UInt8) (hn : n ≤ 255) (hL : SmL L) (ht : t.length ≤ 65536) (h : n = 0 ∨ (L = [] ∧ t = [])) : parL (respB n L t) = (n, L, t, 0) := by
  have h8 := hL.1
  unfold parL respB
  rw [rNum_enc n _ 255 (by omega) hn]
  simp only [if_true]
  by_cases hz : n = 0
  · rw [if_pos hz, if_pos hz, List.append_assoc, rNum_enc L.length _ 2147483647 (by omega) (by omega)]
    simp only [if_true]
    rw [if_neg (by omega), rdLL_enc L _ [] hL.2]
    unfold endP finP
    simp only [if_true, List.nil_append]
    have := rText_enc t [] 65536 (by omega) (by omega)
    rw [List.append_nil] at this
    rw [this]
    simp only [if_true, hz]
  · obtain ⟨rfl, rfl⟩ : L = [] ∧ t = [] := by rcases h with h | h; exact absurd h hz; exact h
    rw [if_neg hz, if_neg hz, if_pos rfl]
theorem few_short (l : List (List Int)) : ∀ m ∈ fewL l, m.length ≤ 40 := by
  intro m hm
  unfold fewL at hm
  obtain ⟨y, _, rfl⟩ := List.mem_map.1 hm
  rw [List.length_take]; omega
end Go.Proofs.YtkpjkgfaepidaaaDoor.PC

