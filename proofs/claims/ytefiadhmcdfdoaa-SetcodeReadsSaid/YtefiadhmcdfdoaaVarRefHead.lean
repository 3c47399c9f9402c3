-- the document's Head is the scan of the plain law
import Derived.Test.YtefiadhmcdfdoaaPCx5
import Derived.Test.YtefiadhmcdfdoaaVarRun
namespace Go.Proofs.Ytefiadhmcdfdoaa.PC
open Go.RowKit Go.Proofs.YtefiadhmcdfdoaaW.PrintWords Go.Proofs.YtefiadhmcdfdoaaW.PrintLast Go.Proofs.YtefiadhmcdfdoaaW.PrintMore Go.Proofs.Ytefiadhmcdfdoaa.VarPlain
def low : List UInt8 → Nat
  | [] => 0
  | b :: l => b.toNat % 128 + 128 * low l
theorem low_drop : ∀ (l : List UInt8) (n : Nat), low (l.drop n) ≤ low l := by
  intro l
  induction l with
  | nil => intro n; simp
  | cons b l ih =>
    intro n
    cases n with
    | zero => simp
    | succ n => rw [List.drop_succ_cons]; have := ih n; rw [low]; omega
theorem low_scan : ∀ (l : List UInt8) (i x : Nat), (scanL i x l).2.2 = 0 → (scanL i x l).1 = x + low (l.take ((scanL i x l).2.1 - i)) * 2 ^ (7 * i) := by
  intro l
  induction l with
  | nil => intro i x h; simp [scanL] at h
  | cons b l ih =>
    intro i x h
    rw [scanL] at h ⊢
    by_cases c : (i = 9 ∧ 1 < b.toNat) ∨ (0 < i ∧ b.toNat = 0)
    · rw [if_pos c] at h; simp at h
    · rw [if_neg c] at h ⊢
      by_cases d : b.toNat < 128
      · rw [if_pos d] at h ⊢
        have e : i + 1 - i = 1 := by omega
        simp only [e, List.take_succ_cons, List.take_zero, low, Nat.mul_zero, Nat.add_zero]
      · rw [if_neg d] at h ⊢
        have hp := scanL_pos l (i + 1) (x + b.toNat % 128 * 2 ^ (7 * i)) h
        have e : (scanL (i + 1) (x + b.toNat % 128 * 2 ^ (7 * i)) l).2.1 - i = ((scanL (i + 1) (x + b.toNat % 128 * 2 ^ (7 * i)) l).2.1 - (i + 1)) + 1 := by omega
        rw [e, List.take_succ_cons, low, ih _ _ h]
        have e2 : 2 ^ (7 * (i + 1)) = 128 * 2 ^ (7 * i) := by rw [Nat.mul_add, Nat.pow_add]; omega
        rw [e2, Nat.add_mul]
        generalize low (List.take ((scanL (i + 1) (x + b.toNat % 128 * 2 ^ (7 * i)) l).2.1 - (i + 1)) l) = y
        generalize 2 ^ (7 * i) = z
        have : y * (128 * z) = 128 * y * z := by rw [← Nat.mul_assoc, Nat.mul_comm y 128]
        omega
theorem head_wrap {x b : Nat} (h : b % 128 + 128 * x < 18446744073709551616) :
    IntKind.u64.wrap (IntKind.u64.wrap ((x : Int) * 128) + IntKind.u64.wrap (Int.tmod (b : Int) 128)) = ((b % 128 + 128 * x : Nat) : Int) := by
  have e1 : Int.tmod (b : Int) 128 = ((b % 128 : Nat) : Int) := rfl
  have e2 : (x : Int) * 128 = ((128 * x : Nat) : Int) := by omega
  rw [e1, e2, u64_in (Int.natCast_nonneg _) (by omega), u64_in (Int.natCast_nonneg _) (by omega), u64_in (by omega) (by omega)]
  omega
theorem head_l1 (s : ByteArray) (hs : s.size ≤ 140737488351232) (m : Nat) (hm : m < s.size) (hb : low ((lst s).take (m + 1)) < 18446744073709551616) (d : Nat) : ∀ (k : Nat), d ≤ m + 1 → d < k →
    dowserref01_Head.l1 k s (m : Int) ((low (((lst s).take (m + 1)).drop d) : Nat) : Int) ((d : Int) - 1) = some (((low ((lst s).take (m + 1)) : Nat) : Int), ((m + 1 : Nat) : Int), 0) := by
  induction d with
  | zero =>
    intro k _ hk
    obtain ⟨k, rfl⟩ : ∃ j, k = j + 1 := ⟨k - 1, by omega⟩
    simp only [dowserref01_Head.l1]
    have h1 : ¬ ((0 : Nat) : Int) - 1 ≥ 0 := by omega
    have hw : wrap64 ((m : Int) + 1) = ((m + 1 : Nat) : Int) := by unfold wrap64; omega
    rw [if_neg h1, List.drop_zero, hw]
  | succ d ih =>
    intro k hd hk
    obtain ⟨k, rfl⟩ : ∃ j, k = j + 1 := ⟨k - 1, by omega⟩
    simp only [dowserref01_Head.l1]
    have e0 : ((d + 1 : Nat) : Int) - 1 = (d : Int) := by omega
    rw [e0]
    have h1 : (d : Int) ≥ 0 := by omega
    have h2 : (d : Int) < (s.size : Int) := by omega
    obtain ⟨b, hbt, hdrop⟩ := bt_lst s d (by omega)
    have hw : wrap64 ((d : Int) - 1) = (d : Int) - 1 := by unfold wrap64; omega
    have hl : ((lst s).take (m + 1)).drop d = b :: ((lst s).take (m + 1)).drop (d + 1) := by
      rw [List.drop_take, List.drop_take, hdrop]
      have : m + 1 - d = (m + 1 - (d + 1)) + 1 := by omega
      rw [this, List.take_succ_cons]
    have hle := low_drop ((lst s).take (m + 1)) d
    rw [hl, low] at hle
    rw [if_pos h1, if_pos h1, if_pos h2, hbt, head_wrap (by omega), hw]
    have := ih k (by omega) (by omega)
    rw [hl, low] at this
    exact this
theorem head_l0 (s : ByteArray) (hs : s.size ≤ 140737488351232) (d : Nat) : ∀ (k i x : Nat), s.size - i = d → i ≤ s.size → i ≤ 9 → 2 * d + s.size + 4 < k →
    ((scanL i x ((lst s).drop i)).2.2 = 0 → low ((lst s).take (scanL i x ((lst s).drop i)).2.1) < 18446744073709551616) →
    dowserref01_Head.l0 k s (i : Int) = if (scanL i x ((lst s).drop i)).2.2 = 0 then some (((low ((lst s).take (scanL i x ((lst s).drop i)).2.1) : Nat) : Int), ((scanL i x ((lst s).drop i)).2.1 : Int), 0)
      else some (0, 0, ((scanL i x ((lst s).drop i)).2.2 : Int)) := by
  induction d with
  | zero =>
    intro k i x hd hi _ hk _
    obtain ⟨k, rfl⟩ : ∃ m, k = m + 1 := ⟨k - 1, by omega⟩
    have h1 : ¬ (i : Int) < (s.size : Int) := by omega
    simp only [dowserref01_Head.l0]
    rw [if_neg h1, List.drop_eq_nil_of_le (by rw [← size_lst]; omega), scanL]; rfl
  | succ d ih =>
    intro k i x hd hi h9 hk hlow
    obtain ⟨k, rfl⟩ : ∃ m, k = m + 3 := ⟨k - 3, by omega⟩
    have hlt : i < s.size := by omega
    obtain ⟨b, hb, hdrop⟩ := bt_lst s i hlt
    have hbl := b.toNat_lt
    have hw : wrap64 ((i : Int) + 1) = ((i + 1 : Nat) : Int) := by unfold wrap64; omega
    have h1 : (i : Int) < (s.size : Int) := by omega
    have h2 : 0 ≤ (i : Int) := by omega
    have first : dowserref01_Head.l0 (k + 3) s (i : Int) = dowserref01_Head.j1 (k + 2) s (i : Int) (decide (i = 9) && decide (1 < b.toNat)) := by
      simp only [dowserref01_Head.l0]
      rw [if_pos h1, if_pos h2, hb]
      by_cases h : i = 9
      · rw [if_pos (by omega)]
        congr 1
        rw [Bool.eq_iff_iff, Bool.and_eq_true, decide_eq_true_iff, decide_eq_true_iff, decide_eq_true_iff]
        omega
      · rw [if_neg (by omega)]
        congr 1
        simp [h]
    rw [first]
    rw [hdrop, scanL] at hlow ⊢
    simp only [dowserref01_Head.j1]
    rw [if_pos h2, if_pos h1, hb]
    by_cases c9 : i = 9 ∧ 1 < b.toNat
    · rw [if_pos (by rw [Bool.and_eq_true, decide_eq_true_iff, decide_eq_true_iff]; exact c9), if_pos (Or.inl c9)]; rfl
    · rw [if_neg (by rw [Bool.and_eq_true, decide_eq_true_iff, decide_eq_true_iff]; exact c9)]
      by_cases d8 : b.toNat < 128
      · rw [if_neg (by omega)]
        have jj : (if (i : Int) > 0 then dowserref01_Head.j2 (k + 1) s (i : Int) ((b.toNat : Int) == 0) else dowserref01_Head.j2 (k + 1) s (i : Int) false) = dowserref01_Head.j2 (k + 1) s (i : Int) (decide (0 < i) && (b.toNat == 0)) := by
          by_cases h0 : 0 < i
          · rw [if_pos (by omega)]
            congr 1
            rw [Bool.eq_iff_iff]; simp [h0]
          · rw [if_neg (by omega)]
            congr 1
            simp [h0]
        rw [jj]
        simp only [dowserref01_Head.j2]
        by_cases c0 : 0 < i ∧ b.toNat = 0
        · rw [if_pos (by rw [Bool.and_eq_true, decide_eq_true_iff, beq_iff_eq]; exact c0), if_pos (Or.inr c0)]; rfl
        · have cc : ¬ ((i = 9 ∧ 1 < b.toNat) ∨ (0 < i ∧ b.toNat = 0)) := fun h => h.elim c9 c0
          rw [if_neg (by rw [Bool.and_eq_true, decide_eq_true_iff, beq_iff_eq]; exact c0)]
          rw [if_neg cc, if_pos d8] at hlow ⊢
          have hl := hlow rfl
          simp only at hl ⊢
          rw [if_pos trivial]
          have := head_l1 s hs i hlt hl (i + 1) k (Nat.le_refl _) (by omega)
          rw [List.drop_take] at this
          simp only [Nat.sub_self, List.take_zero] at this
          have e0 : ((i + 1 : Nat) : Int) - 1 = (i : Int) := by omega
          rw [e0] at this
          exact this
      · rw [if_pos (by omega), hw]
        have cc : ¬ ((i = 9 ∧ 1 < b.toNat) ∨ (0 < i ∧ b.toNat = 0)) := by omega
        rw [if_neg cc, if_neg d8] at hlow ⊢
        exact ih (k + 1) (i + 1) _ (by omega) (by omega) (by omega) (by omega) hlow
theorem head_is (k : Nat) (s : ByteArray) (hs : s.size ≤ 140737488351232) (hk : 3 * s.size + 4 < k) :
    dowserref01_Head.f k s = some (((scanL 0 0 (lst s)).1 : Int), ((scanL 0 0 (lst s)).2.1 : Int), ((scanL 0 0 (lst s)).2.2 : Int)) := by
  unfold dowserref01_Head.f
  have hle := scanL_le (lst s) 0 0 (by omega) (by omega)
  have hlow : (scanL 0 0 ((lst s).drop 0)).2.2 = 0 → low ((lst s).take (scanL 0 0 ((lst s).drop 0)).2.1) = (scanL 0 0 ((lst s).drop 0)).1 := by
    rw [List.drop_zero]
    intro h
    have := low_scan (lst s) 0 0 h
    rw [this]; simp
  have := head_l0 s hs s.size k 0 0 (by omega) (by omega) (by omega) (by omega) (fun h => by rw [hlow h, List.drop_zero]; exact hle.1)
  rw [show ((0 : Nat) : Int) = 0 from rfl] at this
  rw [this]
  rw [List.drop_zero] at hlow ⊢
  by_cases h : (scanL 0 0 (lst s)).2.2 = 0
  · rw [if_pos h, hlow h, h]; rfl
  · rw [if_neg h]
    have z : ∀ (l : List UInt8) (i x : Nat), (scanL i x l).2.2 ≠ 0 → (scanL i x l).1 = 0 ∧ (scanL i x l).2.1 = 0 := by
      intro l
      induction l with
      | nil => intro i x _; exact ⟨rfl, rfl⟩
      | cons b l ih =>
        intro i x
        rw [scanL]
        split
        · exact fun _ => ⟨rfl, rfl⟩
        · split
          · intro h; exact absurd rfl h
          · exact ih _ _
    have := z _ _ _ h
    rw [this.1, this.2]; rfl
end Go.Proofs.Ytefiadhmcdfdoaa.PC
