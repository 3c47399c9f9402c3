/- What the program's reader and writer of numbers and texts come to, in plain words (VarPlain). -/
import Derived.Test.YtefiadhmcdfdoaaPDx1
import Derived.Test.YtefiadhmcdfdoaaPDx2
import Derived.Test.YtefiadhmcdfdoaaVarPlain
namespace Go.Proofs.Ytefiadhmcdfdoaa.PD
open Go.RowKit Go.Proofs.YtefiadhmcdfdoaaW.PrintWords Go.Proofs.YtefiadhmcdfdoaaW.PrintLast Go.Proofs.YtefiadhmcdfdoaaW.PrintMore Go.Proofs.Ytefiadhmcdfdoaa.VarPlain

theorem bt_lst (s : ByteArray) (i : Nat) (h : i < s.size) : ∃ b : UInt8, bt s (i : Int) = (b.toNat : Int) ∧ (lst s).drop i = b :: (lst s).drop (i + 1) := by
  have h' : i < (lst s).length := by rw [← size_lst]; exact h
  refine ⟨(lst s)[i], ?_, List.drop_eq_getElem_cons h'⟩
  unfold bt
  rw [Int.toNat_natCast, dif_pos h]
  rfl

theorem nums_mk (l : List UInt8) : strOfNums (l.map fun b => (b.toNat : Int)) = mkS l := by
  unfold strOfNums mkS
  rw [List.map_map]
  have : (fun n : Int => UInt8.ofNat n.toNat) ∘ (fun b : UInt8 => (b.toNat : Int)) = id := by
    funext b; simp
  rw [this, List.map_id]

theorem num_loop (d : Nat) : ∀ (k x : Nat) (acc : List Int), (enc x).length ≤ d → d < k → acc.length + d < 140737488355328 →
    varint_Num.l0 k (x : Int) acc = some (strOfNums (acc ++ (enc x).map fun b => (b.toNat : Int))) := by
  induction d with
  | zero => intro k x acc h; have := enc_len_pos x; omega
  | succ d ih =>
    intro k x acc h hk ha
    obtain ⟨k, rfl⟩ : ∃ m, k = m + 1 := ⟨k - 1, by omega⟩
    simp only [varint_Num.l0]
    by_cases hx : x < 128
    · rw [if_neg (by omega), if_pos (by omega), enc_small hx]
      have : (x : Int) % 256 = ((UInt8.ofNat x).toNat : Int) := by rw [UInt8.toNat_ofNat']; omega
      rw [this]; rfl
    · rw [if_pos (by omega), if_pos (by omega)]
      rw [enc_great (by omega), List.length_cons] at h
      have e1 : (x : Int) % 256 = ((x % 256 : Nat) : Int) := by omega
      have e2 : (x : Int) / 128 = ((x / 128 : Nat) : Int) := by omega
      rw [e1, or128 _ (by omega), e2, ih k (x / 128) _ (by omega) (by omega) (by rw [List.length_append, List.length_singleton]; omega), enc_great (x := x) (by omega), List.map_cons, List.append_assoc]
      have e3 : ((UInt8.ofNat (x % 128 + 128)).toNat : Int) = ((x % 256 % 128 + 128 : Nat) : Int) := by rw [UInt8.toNat_ofNat']; omega
      rw [e3]; rfl
theorem num_is (k x : Nat) (hx : x < 18446744073709551616) (hk : 10 < k) : varint_Num.f k (x : Int) = some (mkS (enc x)) := by
  unfold varint_Num.f
  have := num_loop 10 k x [] (enc_len_u64 hx) hk (by simp)
  rw [this, List.nil_append, nums_mk]
theorem scan_j2 (k : Nat) (s : ByteArray) (x i n b : Int) (hi : 0 ≤ i) (h9 : i ≤ 9) (q : Bool) : varint_scan.j2 (k + 1) s x i b n i q = if q = true then some (0, 0, 3) else
    if b < 128 then some (Go.bits .or .u64 x (shl .u64 (IntKind.u64.wrap (Go.bits .and .u8 b 127)) (wrap64 (7 * i))), wrap64 (i + 1), 0)
    else varint_scan.l0 k s (Go.bits .or .u64 x (shl .u64 (IntKind.u64.wrap (Go.bits .and .u8 b 127)) (wrap64 (7 * i)))) n (wrap64 (i + 1)) := by
  simp only [varint_scan.j2]
  have hw : wrap64 (7 * i) = 7 * i := by unfold wrap64; omega
  have h : 0 ≤ wrap64 (7 * i) := by rw [hw]; omega
  rw [if_pos h]
theorem scan_j1 (k : Nat) (s : ByteArray) (x n : Int) (i b : Nat) (q : Bool) : varint_scan.j1 (k + 2) s x (i : Int) (b : Int) n (i : Int) q = varint_scan.j2 (k + 1) s x (i : Int) (b : Int) n (i : Int) (q || (decide (0 < i) && (b == 0))) := by
  simp only [varint_scan.j1]
  cases q with
  | true => rw [if_pos rfl, Bool.true_or]
  | false =>
    rw [if_neg (by simp)]
    by_cases h0 : 0 < i
    · have h1 : (i : Int) > 0 := by omega
      rw [if_pos h1]
      congr 1
      rw [Bool.eq_iff_iff]; simp [h0]
    · have h1 : ¬ (i : Int) > 0 := by omega
      rw [if_neg h1]
      congr 1
      simp [h0]
theorem scan_l0 (k : Nat) (s : ByteArray) (x : Int) (i b : Nat) (hlt : i < s.size) (hb : bt s (i : Int) = (b : Int)) :
    varint_scan.l0 (k + 3) s x (s.size : Int) (i : Int) = varint_scan.j1 (k + 2) s x (i : Int) (b : Int) (s.size : Int) (i : Int) (decide (i = 9) && decide (1 < b)) := by
  simp only [varint_scan.l0]
  have h1 : (i : Int) < (s.size : Int) := by omega
  have h2 : 0 ≤ (i : Int) := by omega
  rw [if_pos h1, if_pos h2, if_pos h1, hb]
  by_cases h : i = 9
  · have h3 : (i : Int) = 9 := by omega
    rw [if_pos h3]
    congr 1
    rw [Bool.eq_iff_iff, Bool.and_eq_true, decide_eq_true_iff, decide_eq_true_iff, decide_eq_true_iff]
    omega
  · have h3 : ¬ (i : Int) = 9 := by omega
    rw [if_neg h3]
    congr 1
    simp [h]
theorem scan_acc (x i b : Nat) (h9 : i ≤ 9) (hb : b < 256) (hx : x < 2 ^ (7 * i)) (hb9 : i = 9 → b ≤ 1) :
    Go.bits .or .u64 (x : Int) (shl .u64 (IntKind.u64.wrap (Go.bits .and .u8 (b : Int) 127)) (wrap64 (7 * (i : Int)))) = ((x + b % 128 * 2 ^ (7 * i) : Nat) : Int) := by
  have hm : b % 128 * 2 ^ (7 * i) ≤ 127 * 2 ^ (7 * i) := Nat.mul_le_mul_right _ (by omega)
  have hbound : x + b % 128 * 2 ^ (7 * i) < 18446744073709551616 := by
    rcases Nat.lt_or_ge i 9 with h | h
    · have : 2 ^ (7 * i) ≤ 2 ^ 56 := Nat.pow_le_pow_right (by omega) (by omega)
      omega
    · obtain rfl : i = 9 := by omega
      have h1 := hb9 rfl
      have : b % 128 * 2 ^ (7 * 9) ≤ 1 * 2 ^ (7 * 9) := Nat.mul_le_mul_right _ (by omega)
      omega
  have w7 : wrap64 (7 * (i : Int)) = ((7 * i : Nat) : Int) := by unfold wrap64; omega
  have hsh : shl .u64 ((b % 128 : Nat) : Int) ((7 * i : Nat) : Int) = ((b % 128 * 2 ^ (7 * i) : Nat) : Int) := by
    unfold shl
    have hbits : IntKind.u64.bits = 64 := rfl
    rw [Int.toNat_natCast, hbits, Nat.min_eq_left (by omega)]
    have : ((b % 128 : Nat) : Int) * 2 ^ (7 * i) = ((b % 128 * 2 ^ (7 * i) : Nat) : Int) := by rw [Int.natCast_mul, Int.natCast_pow]; rfl
    rw [this]
    exact u64_in (Int.natCast_nonneg _) (by omega)
  have hu : IntKind.u64.wrap ((b % 128 : Nat) : Int) = ((b % 128 : Nat) : Int) := u64_in (Int.natCast_nonneg _) (by omega)
  rw [and127 _ hb, hu, w7, hsh, or64 _ _ _ hx hbound]
theorem scan_loop (s : ByteArray) (hs : s.size ≤ 140737488351232) (d : Nat) : ∀ (k i x : Nat), s.size - i = d → i ≤ s.size → i ≤ 9 → x < 2 ^ (7 * i) → 3 * d < k →
    varint_scan.l0 k s (x : Int) (s.size : Int) (i : Int) = some (((scanL i x ((lst s).drop i)).1 : Int), ((scanL i x ((lst s).drop i)).2.1 : Int), ((scanL i x ((lst s).drop i)).2.2 : Int)) := by
  induction d with
  | zero =>
    intro k i x hd hi _ _ hk
    obtain ⟨k, rfl⟩ : ∃ m, k = m + 1 := ⟨k - 1, by omega⟩
    have h1 : ¬ (i : Int) < (s.size : Int) := by omega
    simp only [varint_scan.l0]
    rw [if_neg h1, List.drop_eq_nil_of_le (by rw [← size_lst]; omega)]; rfl
  | succ d ih =>
    intro k i x hd hi h9 hx hk
    obtain ⟨k, rfl⟩ : ∃ m, k = m + 3 := ⟨k - 3, by omega⟩
    have hlt : i < s.size := by omega
    obtain ⟨b, hb, hdrop⟩ := bt_lst s i hlt
    have hbl := b.toNat_lt
    have hw : wrap64 ((i : Int) + 1) = ((i + 1 : Nat) : Int) := by unfold wrap64; omega
    have hi9 : (i : Int) ≤ 9 := by omega
    rw [scan_l0 k s x i b.toNat hlt hb, scan_j1, scan_j2 _ _ _ _ _ _ (Int.natCast_nonneg _) hi9, hdrop, scanL]
    by_cases c : (i = 9 ∧ 1 < b.toNat) ∨ (0 < i ∧ b.toNat = 0)
    · have c' : (decide (i = 9) && decide (1 < b.toNat) || (decide (0 < i) && (b.toNat == 0))) = true := by
        rw [Bool.or_eq_true, Bool.and_eq_true, Bool.and_eq_true, decide_eq_true_iff, decide_eq_true_iff, decide_eq_true_iff, beq_iff_eq]; exact c
      rw [if_pos c', if_pos c]; rfl
    · have c' : ¬ (decide (i = 9) && decide (1 < b.toNat) || (decide (0 < i) && (b.toNat == 0))) = true := by
        rw [Bool.or_eq_true, Bool.and_eq_true, Bool.and_eq_true, decide_eq_true_iff, decide_eq_true_iff, decide_eq_true_iff, beq_iff_eq]; exact c
      rw [if_neg c', if_neg c, hw, scan_acc x i b.toNat h9 hbl hx (by omega)]
      by_cases d8 : b.toNat < 128
      · have d9 : (b.toNat : Int) < 128 := by omega
        rw [if_pos d9, if_pos d8]; rfl
      · have d9 : ¬ (b.toNat : Int) < 128 := by omega
        rw [if_neg d9, if_neg d8]
        have e2 : 2 ^ (7 * (i + 1)) = 128 * 2 ^ (7 * i) := by rw [Nat.mul_add, Nat.pow_add]; omega
        have hm : b.toNat % 128 * 2 ^ (7 * i) ≤ 127 * 2 ^ (7 * i) := Nat.mul_le_mul_right _ (by omega)
        exact ih k (i + 1) _ (by omega) (by omega) (by omega) (by omega) (by omega)
theorem scan_is (k : Nat) (s : ByteArray) (hs : s.size ≤ 140737488351232) (hk : 3 * s.size < k) :
    varint_scan.f k s = some (((scanL 0 0 (lst s)).1 : Int), ((scanL 0 0 (lst s)).2.1 : Int), ((scanL 0 0 (lst s)).2.2 : Int)) := by
  unfold varint_scan.f
  have := scan_loop s hs s.size k 0 0 (by omega) (by omega) (by omega) (by simp) hk
  rw [List.drop_zero] at this
  exact this

theorem fail_is (s : ByteArray) (e c : Int) : varint_In_Fail.f s e c = some (mkS (rFail (lst s) e c).1, (rFail (lst s) e c).2) := by
  unfold varint_In_Fail.f rFail
  by_cases h : e = 0
  · rw [if_pos h, if_pos h]
    by_cases h2 : c = 0
    · rw [if_pos h2, if_pos h2]; rfl
    · rw [if_neg h2, if_neg h2]; rfl
  · rw [if_neg h, if_neg h]; rfl
theorem innum_is (k : Nat) (s : ByteArray) (e : Int) (most : Nat) (hs : s.size ≤ 140737488351232) (hk : 3 * s.size < k) :
    varint_In_Num.f k s e (most : Int) = some (((rNum (lst s) e most).1 : Int), mkS (rNum (lst s) e most).2.1, (rNum (lst s) e most).2.2) := by
  unfold varint_In_Num.f rNum
  by_cases h : e = 0
  · subst h
    rw [if_pos rfl, scan_is k s hs hk]
    have hl := scanL_le (lst s) 0 0 (by omega) (by omega)
    rw [← size_lst] at hl
    simp only [Option.bind_some, if_true]
    by_cases h1 : (scanL 0 0 (lst s)).2.2 = 0
    · rw [if_pos (by omega), if_pos h1]
      by_cases h2 : most < (scanL 0 0 (lst s)).1
      · rw [if_pos (by omega), if_pos h2, fail_is]; rfl
      · rw [if_neg (by omega), if_neg h2, if_pos (by omega), if_pos (by omega), Int.toNat_natCast, extract_from]
    · rw [if_neg (by omega), if_neg h1, fail_is]
      unfold rFail
      rw [if_pos rfl, if_neg (by omega)]
      rfl
  · rw [if_neg h, if_neg h]; rfl
theorem end_is (s : ByteArray) (e : Int) : varint_In_End.f s e = some (if lst s = [] then e else 3, s, e) := by
  unfold varint_In_End.f
  rw [toList_lst]
  split <;> rfl
theorem err_is (s : ByteArray) (e : Int) : varint_In_Err.f s e = some (e, s, e) := rfl
end Go.Proofs.Ytefiadhmcdfdoaa.PD
