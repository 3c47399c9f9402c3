/- From any sum con it goes con bit by bit, and unlike sums stay unlike: the pure statement of CrcGoesOn, for every sum and both texts. -/
import Derived.Test.YtfkgidiedpkbdaaPCrcGoesOnx1
import Derived.Test.YtfkgidiedpkbdaaCrcPlain
namespace Go.Proofs.Ytfkgidiedpkbdaa.Pure
open Go.RowKit Go.Proofs.Ytfkgidiedpkbdaa.PCrcGoesOn Go.Proofs.YtfkgidiedpkbdaaW.PrintWords Go.Proofs.YtfkgidiedpkbdaaW.PrintLast Go.Proofs.Ytfkgidiedpkbdaa.CrcPlain

theorem eight_is (v : BitVec 32) (k : Nat) (hk : 8 < k) : crc_eight.f k (v.toNat : Int) = some ((cones v).toNat : Int) := by
  have one : ∀ (k : Nat) (v : BitVec 32) (i : Int), 0 ≤ i → i < 8 → crc_eight.l0 (k + 1) (v.toNat : Int) i = crc_eight.l0 k ((cstep v).toNat : Int) (i + 1) := by
    intro k v i h0 h1
    have hw : wrap64 (i + 1) = i + 1 := by unfold wrap64; omega
    simp only [crc_eight.l0]
    rw [if_pos h1, hw, shl_one]
    unfold cstep
    cases hm : v.msb with
    | true =>
      have hn : ¬ Go.bits .and .u32 (v.toNat : Int) 2147483648 = 0 := fun h => by rw [bits_top, hm] at h; cases h
      rw [if_neg hn]
      have hp : (79764919 : Int) = (cpoly.toNat : Int) := rfl
      rw [hp, bits_xor]
      rfl
    | false =>
      rw [if_pos ((bits_top v).2 hm)]
      simp
  obtain ⟨k, rfl⟩ : ∃ m, k = m + 9 := ⟨k - 9, by omega⟩
  unfold crc_eight.f
  rw [one _ _ _ (by omega) (by omega), one _ _ _ (by omega) (by omega), one _ _ _ (by omega) (by omega), one _ _ _ (by omega) (by omega), one _ _ _ (by omega) (by omega), one _ _ _ (by omega) (by omega), one _ _ _ (by omega) (by omega), one _ _ _ (by omega) (by omega)]
  simp only [crc_eight.l0]
  rw [if_neg (by omega)]
  rfl

theorem drop_at (s : ByteArray) (i : Nat) (h : i < s.size) : s.data.toList.drop i = s[i] :: s.data.toList.drop (i + 1) := by
  rw [List.drop_eq_getElem_cons (by simpa using h)]; rfl

theorem bt_at' (s : ByteArray) (i : Nat) (h : i < s.size) : bt s (i : Int) = ((s[i]).toNat : Int) := by
  unfold bt; simp [h]

theorem byte_hi (b : UInt8) : (((b.toNat : Int) % 4294967296) * 16777216) % 4294967296 = ((chi b).toNat : Int) := by
  have := b.toNat_lt
  unfold chi; rw [BitVec.toNat_ofNat]; omega

theorem on_loop (s : ByteArray) (hs : s.size ≤ 140737488351232) (d : Nat) : ∀ (k : Nat) (v : BitVec 32) (i : Nat), s.size - i = d → i ≤ s.size → d + 8 < k →
    crc_On.l0 k (v.toNat : Int) s (s.size : Int) (i : Int) = some ((con v (s.data.toList.drop i)).toNat : Int) := by
  induction d with
  | zero =>
    intro k v i hd hi_ hk
    obtain ⟨k, rfl⟩ : ∃ m, k = m + 1 := ⟨k - 1, by omega⟩
    simp only [crc_On.l0]
    rw [if_neg (by omega), List.drop_eq_nil_of_le (by simp; omega)]; rfl
  | succ d ih =>
    intro k v i hd hi_ hk
    obtain ⟨k, rfl⟩ : ∃ m, k = m + 1 := ⟨k - 1, by omega⟩
    have hlt : i < s.size := by omega
    have hw : wrap64 ((i : Int) + 1) = ((i + 1 : Nat) : Int) := by unfold wrap64; omega
    simp only [crc_On.l0]
    rw [if_pos (by omega), if_pos (by omega), if_pos (by omega), bt_at' s i hlt, byte_hi, bits_xor, eight_is _ _ (by omega)]
    simp only [Option.bind_some]
    rw [hw, ih _ _ _ (by omega) (by omega) (by omega), drop_at s i hlt, on_cons]

theorem on_is (s : ByteArray) (hs : s.size ≤ 140737488351232) (v : BitVec 32) (k : Nat) (hk : s.size + 8 < k) :
    crc_On.f k (v.toNat : Int) s = some ((con v s.data.toList).toNat : Int) := by
  unfold crc_On.f
  have := on_loop s hs s.size k v 0 (by omega) (by omega) hk
  simpa using this

theorem of_loop (l : List ByteArray) (B : Nat) (hB : ∀ s ∈ l, s.size ≤ B) (hB' : B ≤ 140737488351232) (hl : l.length ≤ 100) (d : Nat) : ∀ (k : Nat) (v : BitVec 32) (i : Nat), l.length - i = d → i ≤ l.length → d + B + 8 < k →
    crc_Of.l0 k (v.toNat : Int) l (l.length : Int) (i : Int) = some ((con v ((l.drop i).flatMap fun s => s.data.toList)).toNat : Int) := by
  induction d with
  | zero =>
    intro k v i hd hi_ hk
    obtain ⟨k, rfl⟩ : ∃ m, k = m + 1 := ⟨k - 1, by omega⟩
    simp only [crc_Of.l0]
    rw [if_neg (by omega), List.drop_eq_nil_of_le (by omega)]; rfl
  | succ d ih =>
    intro k v i hd hi_ hk
    obtain ⟨k, rfl⟩ : ∃ m, k = m + 1 := ⟨k - 1, by omega⟩
    have hlt : i < l.length := by omega
    have hw : wrap64 ((i : Int) + 1) = ((i + 1 : Nat) : Int) := by unfold wrap64; omega
    have hr : rdOf ByteArray.empty l (i : Int) = l[i] := by unfold rdOf; simp [hlt]
    have hb := hB _ (List.getElem_mem hlt)
    simp only [crc_Of.l0]
    rw [if_pos (by omega), if_pos (by omega), if_pos (by omega), hr, on_is _ (by omega) _ _ (by omega)]
    simp only [Option.bind_some]
    rw [hw, ih _ _ _ (by omega) (by omega) (by omega), List.drop_eq_getElem_cons hlt, List.flatMap_cons, on_append]

def ff : BitVec 32 := 4294967295#32
theorem of_is (l : List ByteArray) (B : Nat) (hB : ∀ s ∈ l, s.size ≤ B) (hB' : B ≤ 140737488351232) (hl : l.length ≤ 100) (k : Nat) (hk : l.length + B + 8 < k) :
    crc_Of.f k l = some ((con ff (l.flatMap fun s => s.data.toList)).toNat : Int) := by
  unfold crc_Of.f
  have := of_loop l B hB hB' hl l.length k ff 0 (by omega) (by omega) (by omega)
  rw [List.drop_zero] at this
  exact this

theorem num_four (x : BitVec 32) : strOfNums [((x.toNat : Int) / 16777216) % 256, ((x.toNat : Int) / 65536) % 256, ((x.toNat : Int) / 256) % 256, (x.toNat : Int) % 256] = ⟨(cfour x).toArray⟩ := by
  unfold strOfNums cfour
  have key : ∀ n : Nat, UInt8.ofNat ((n : Int) % 256).toNat = UInt8.ofNat n := by
    intro n; apply UInt8.toNat_inj.1; simp only [UInt8.toNat_ofNat']; omega
  have e1 : ((x.toNat : Int) / 16777216) % 256 = ((x.toNat / 16777216 : Nat) : Int) % 256 := by omega
  have e2 : ((x.toNat : Int) / 65536) % 256 = ((x.toNat / 65536 : Nat) : Int) % 256 := by omega
  have e3 : ((x.toNat : Int) / 256) % 256 = ((x.toNat / 256 : Nat) : Int) % 256 := by omega
  simp only [List.map_cons, List.map_nil, e1, e2, e3, key]

theorem four_is (x : BitVec 32) : crc_Four.f (x.toNat : Int) = some ⟨(cfour x).toArray⟩ := by
  unfold crc_Four.f
  rw [num_four]

theorem awake_is (k : Nat) (hk : 100 < k) : dowserlaw02_awake.f k = some true := by
  unfold dowserlaw02_awake.f
  rw [of_is [(⟨#[49, 50, 51, 52, 53, 54, 55, 56, 57]⟩ : ByteArray)] 9 (fun s h => by rw [List.mem_singleton.1 h]; decide) (by omega) (by decide) k (by show 1 + 9 + 8 < k; omega)]
  have e : con ff (([(⟨#[49, 50, 51, 52, 53, 54, 55, 56, 57]⟩ : ByteArray)] : List ByteArray).flatMap fun s => s.data.toList) = 58124007#32 := by decide +kernel
  rw [e]
  simp only [Option.bind_some]
  rw [if_pos (by decide)]
  have h := four_is 258#32
  have h2 : (((258#32 : BitVec 32).toNat : Nat) : Int) = 258 := by decide
  rw [h2] at h
  rw [h]
  have e2 : (cfour 258#32) = [0, 0, 1, 2] := by decide
  simp only [Option.bind_some, ByteArray.toList_mk, e2]
  decide

theorem cut_is (s : ByteArray) (n : Nat) : dowserlaw01_Cut.f s (n : Int) = some (s.extract 0 n) := by
  unfold dowserlaw01_Cut.f
  by_cases h : (s.size : Int) > n
  · rw [if_pos h, if_pos (by omega), if_pos (by omega)]; simp
  · rw [if_neg h]
    congr 1
    apply ByteArray.ext
    have hz : s.data.size ≤ n := by have : s.size = s.data.size := rfl; omega
    rw [ByteArray.data_extract, Array.extract_eq_self_of_le hz]

/-! The document's. -/
theorem ref_bit (k : Nat) (v : BitVec 32) (s : ByteArray) (i : Int) (b w : Nat) (hb : b < 256) (hw0 : 0 < w) (hw : w ≤ 128) :
    dowserref02_On.l1 (k + 1) (v.toNat : Int) s i (b : Int) (w : Int) = dowserref02_On.l1 k ((crstep v (b / w % 2 == 1)).toNat : Int) s i (b : Int) ((w / 2 : Nat) : Int) := by
  have hq : b / w < 256 := Nat.lt_of_le_of_lt (Nat.div_le_self _ _) hb
  have h1 : wrap64 (Int.tdiv (b : Int) (w : Int)) = ((b / w : Nat) : Int) := by
    have e : Int.tdiv (b : Int) (w : Int) = ((b / w : Nat) : Int) := rfl
    rw [e]; generalize b / w = q at hq; unfold wrap64; omega
  have h2 : Int.tmod ((b / w : Nat) : Int) 2 = ((b / w % 2 : Nat) : Int) := rfl
  have h3 : wrap64 (Int.tdiv (w : Int) 2) = ((w / 2 : Nat) : Int) := by
    have : Int.tdiv (w : Int) 2 = ((w / 2 : Nat) : Int) := rfl
    rw [this]; unfold wrap64; omega
  have h4 : ((((b / w % 2 : Nat) : Int) == 1) : Bool) = (b / w % 2 == 1) := by
    rw [Bool.eq_iff_iff]; simp; omega
  simp only [dowserref02_On.l1]
  rw [if_pos (by omega), if_neg (by omega), h1, h2, h3, h4, msb_ge, add_self]
  unfold crstep
  cases hc : ((b / w % 2 == 1) != v.msb) with
  | true =>
    have hp : (79764919 : Int) = (cpoly.toNat : Int) := rfl
    rw [if_pos rfl, if_pos rfl, hp, bits_xor]
  | false =>
    rw [if_neg (by simp), if_neg (by simp), BitVec.xor_zero]

theorem ref_loop (s : ByteArray) (hs : s.size ≤ 140737488351232) (d : Nat) : ∀ (k : Nat) (v : BitVec 32) (i : Nat), s.size - i = d → i ≤ s.size → 10 * d < k →
    dowserref02_On.l0 k (v.toNat : Int) s (i : Int) = some ((con v (s.data.toList.drop i)).toNat : Int) := by
  induction d with
  | zero =>
    intro k v i hd hi_ hk
    obtain ⟨k, rfl⟩ : ∃ m, k = m + 1 := ⟨k - 1, by omega⟩
    simp only [dowserref02_On.l0]
    rw [if_neg (by omega), List.drop_eq_nil_of_le (by simp; omega)]; rfl
  | succ d ih =>
    intro k v i hd hi_ hk
    obtain ⟨k, rfl⟩ : ∃ m, k = m + 10 := ⟨k - 10, by omega⟩
    have hlt : i < s.size := by omega
    have hw : wrap64 ((i : Int) + 1) = ((i + 1 : Nat) : Int) := by unfold wrap64; omega
    have hb := (s[i]).toNat_lt
    have hwb : wrap64 (((s[i]).toNat : Nat) : Int) = (((s[i]).toNat : Nat) : Int) := by unfold wrap64; omega
    have e0 : dowserref02_On.l0 (k + 10) (v.toNat : Int) s (i : Int) = dowserref02_On.l1 (k + 9) (v.toNat : Int) s (i : Int) (((s[i]).toNat : Nat) : Int) ((128 : Nat) : Int) := by
      simp only [dowserref02_On.l0]
      rw [if_pos (by omega), if_pos (by omega), bt_at' s i hlt, hwb]; rfl
    rw [e0, ref_bit _ _ _ _ _ 128 hb (by omega) (by omega), ref_bit _ _ _ _ _ (128 / 2) hb (by omega) (by omega), ref_bit _ _ _ _ _ (128 / 2 / 2) hb (by omega) (by omega), ref_bit _ _ _ _ _ (128 / 2 / 2 / 2) hb (by omega) (by omega), ref_bit _ _ _ _ _ (128 / 2 / 2 / 2 / 2) hb (by omega) (by omega), ref_bit _ _ _ _ _ (128 / 2 / 2 / 2 / 2 / 2) hb (by omega) (by omega), ref_bit _ _ _ _ _ (128 / 2 / 2 / 2 / 2 / 2 / 2) hb (by omega) (by omega), ref_bit _ _ _ _ _ (128 / 2 / 2 / 2 / 2 / 2 / 2 / 2) hb (by omega) (by omega)]
    simp only [dowserref02_On.l1]
    rw [if_neg (by omega), hw]
    have hr := rsteps_eq v s[i]
    unfold crsteps at hr
    have := ih k (cones (v ^^^ chi s[i])) (i + 1) (by omega) (by omega) (by omega)
    rw [drop_at s i hlt, on_cons, ← this, ← hr]

theorem ref_is (s : ByteArray) (hs : s.size ≤ 140737488351232) (v : BitVec 32) (k : Nat) (hk : 10 * s.size < k) :
    dowserref02_On.f k (v.toNat : Int) s = some ((con v s.data.toList).toNat : Int) := by
  unfold dowserref02_On.f
  have := ref_loop s hs s.size k v 0 (by omega) (by omega) hk
  simpa using this

theorem CrcGoesOn : dowserlaw02_CrcGoesOn.Pure := by
  intro a0 a1 a2 hwf hs1 hs2
  refine ⟨5000, ?_⟩
  unfold dowserlaw02_CrcGoesOn.f
  rw [awake_is _ (by omega)]
  simp only [Option.bind_some, if_true]
  have hc1 := cut_is a1 60
  have hc2 := cut_is a2 60
  rw [show (((60 : Nat) : Int)) = (60 : Int) from rfl] at hc1 hc2
  rw [hc1]; simp only [Option.bind_some]
  rw [hc2]; simp only [Option.bind_some]
  generalize hA : a1.extract 0 60 = A
  generalize hB : a2.extract 0 60 = B
  have hAn : A.size ≤ 60 := by rw [← hA, ByteArray.size_extract]; omega
  have hBn : B.size ≤ 60 := by rw [← hB, ByteArray.size_extract]; omega
  obtain ⟨v, rfl⟩ : ∃ v : BitVec 32, a0 = (v.toNat : Int) := by
    simp [Lit.wf, IntKind.min, IntKind.max, IntKind.bits, IntKind.signed] at hwf
    refine ⟨BitVec.ofNat 32 a0.toNat, ?_⟩
    rw [BitVec.toNat_ofNat]; omega
  have q1 := on_is A (by omega) v 5000 (by omega)
  have q2 := ref_is A (by omega) v 5000 (by omega)
  have q3 := on_is B (by omega) (con v A.data.toList) 5000 (by omega)
  have hsz : (A ++ B).size = A.size + B.size := ByteArray.size_append
  have q4 := ref_is (A ++ B) (by omega) v 5000 (by omega)
  have hl : (A ++ B).data.toList = A.data.toList ++ B.data.toList := by rw [ByteArray.data_append, Array.toList_append]
  rw [hl, on_append] at q4
  have q5 := on_is (⟨#[]⟩ : ByteArray) (by simp [ByteArray.size]) v 5000 (by simp [ByteArray.size])
  simp only [on_nil] at q5
  have hx : Go.bits .xor .u32 (v.toNat : Int) 1 = ((v ^^^ 1#32).toNat : Int) := bits_xor v 1#32
  have q6 := on_is A (by omega) (v ^^^ 1#32) 5000 (by omega)
  have hne : con (v ^^^ 1#32) A.data.toList ≠ con v A.data.toList := fun h => by
    have h1 := on_inj _ _ _ h
    have h2 : v ^^^ (v ^^^ 1#32) = v ^^^ v := by rw [h1]
    rw [← BitVec.xor_assoc, BitVec.xor_self, BitVec.zero_xor] at h2
    exact absurd h2 (by decide)
  rw [q1]; simp only [Option.bind_some]
  rw [q2]; simp only [Option.bind_some, if_true]
  rw [q3]; simp only [Option.bind_some]
  rw [if_pos (by omega), q4]; simp only [Option.bind_some, if_true]
  rw [q5]; simp only [Option.bind_some, if_true]
  rw [hx, q6]; simp only [Option.bind_some]
  congr 1
  rw [bne_iff_ne]
  intro h
  apply hne
  apply BitVec.eq_of_toNat_eq
  omega

end Go.Proofs.Ytfkgidiedpkbdaa.Pure
