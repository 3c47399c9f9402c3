/- A sum over any text, in whatever two parts, is the sum bit by bit, and with its own bytes behind it is nought: the pure statement of CrcIs, for every text and every cut. -/
import Derived.Test.YtfkgidiedpkbdaaPBx
import Derived.Test.YtfkgidiedpkbdaaCrcPlain
namespace Go.Proofs.Ytfkgidiedpkbdaa.Pure
open Go.RowKit Go.Proofs.Ytfkgidiedpkbdaa.PB Go.Proofs.YtfkgidiedpkbdaaW.PrintWords Go.Proofs.YtfkgidiedpkbdaaW.PrintLast Go.Proofs.Ytfkgidiedpkbdaa.CrcPlain

theorem eight_is (v : BitVec 32) (k : Nat) (hk : 8 < k) : crc_eight.f k (v.toNat : Int) = some ((cones v).toNat : Int) := by
  have one : ∀ (k : Nat) (v : BitVec 32) (i : Int), 0 ≤ i → i < 8 → crc_eight.l0 (k + 1) (v.toNat : Int) i = crc_eight.l0 k ((cstep v).toNat : Int) (i + 1) := by
    intro k v i h0 h1
    have hw : wrap64 (i + 1) = i + 1 := by unfold wrap64; omega
    simp only [crc_eight.l0]
    rw [if_pos h1, hw, shl_one]
    unfold cstep
    cases hm : v.msb with
    | true =>
      have hn : ¬ Go.bits .and .u32 (v.toNat : Int) 2147483648 = 0 := fun h => by rw [bits_top, hm] at h; cases h
      rw [if_neg hn]
      have hp : (79764919 : Int) = (cpoly.toNat : Int) := rfl
      rw [hp, bits_xor]
      rfl
    | false =>
      rw [if_pos ((bits_top v).2 hm)]
      simp
  obtain ⟨k, rfl⟩ : ∃ m, k = m + 9 := ⟨k - 9, by omega⟩
  unfold crc_eight.f
  rw [one _ _ _ (by omega) (by omega), one _ _ _ (by omega) (by omega), one _ _ _ (by omega) (by omega), one _ _ _ (by omega) (by omega), one _ _ _ (by omega) (by omega), one _ _ _ (by omega) (by omega), one _ _ _ (by omega) (by omega), one _ _ _ (by omega) (by omega)]
  simp only [crc_eight.l0]
  rw [if_neg (by omega)]
  rfl

theorem drop_at (s : ByteArray) (i : Nat) (h : i < s.size) : s.data.toList.drop i = s[i] :: s.data.toList.drop (i + 1) := by
  rw [List.drop_eq_getElem_cons (by simpa using h)]; rfl

theorem bt_at' (s : ByteArray) (i : Nat) (h : i < s.size) : bt s (i : Int) = ((s[i]).toNat : Int) := by
  unfold bt; simp [h]

theorem byte_hi (b : UInt8) : (((b.toNat : Int) % 4294967296) * 16777216) % 4294967296 = ((chi b).toNat : Int) := by
  have := b.toNat_lt
  unfold chi; rw [BitVec.toNat_ofNat]; omega

theorem on_loop (s : ByteArray) (hs : s.size ≤ 140737488351232) (d : Nat) : ∀ (k : Nat) (v : BitVec 32) (i : Nat), s.size - i = d → i ≤ s.size → d + 8 < k →
    crc_On.l0 k (v.toNat : Int) s (s.size : Int) (i : Int) = some ((con v (s.data.toList.drop i)).toNat : Int) := by
  induction d with
  | zero =>
    intro k v i hd hi_ hk
    obtain ⟨k, rfl⟩ : ∃ m, k = m + 1 := ⟨k - 1, by omega⟩
    simp only [crc_On.l0]
    rw [if_neg (by omega), List.drop_eq_nil_of_le (by simp; omega)]; rfl
  | succ d ih =>
    intro k v i hd hi_ hk
    obtain ⟨k, rfl⟩ : ∃ m, k = m + 1 := ⟨k - 1, by omega⟩
    have hlt : i < s.size := by omega
    have hw : wrap64 ((i : Int) + 1) = ((i + 1 : Nat) : Int) := by unfold wrap64; omega
    simp only [crc_On.l0]
    rw [if_pos (by omega), if_pos (by omega), if_pos (by omega), bt_at' s i hlt, byte_hi, bits_xor, eight_is _ _ (by omega)]
    simp only [Option.bind_some]
    rw [hw, ih _ _ _ (by omega) (by omega) (by omega), drop_at s i hlt, on_cons]

theorem on_is (s : ByteArray) (hs : s.size ≤ 140737488351232) (v : BitVec 32) (k : Nat) (hk : s.size + 8 < k) :
    crc_On.f k (v.toNat : Int) s = some ((con v s.data.toList).toNat : Int) := by
  unfold crc_On.f
  have := on_loop s hs s.size k v 0 (by omega) (by omega) hk
  simpa using this

theorem of_loop (l : List ByteArray) (B : Nat) (hB : ∀ s ∈ l, s.size ≤ B) (hB' : B ≤ 140737488351232) (hl : l.length ≤ 100) (d : Nat) : ∀ (k : Nat) (v : BitVec 32) (i : Nat), l.length - i = d → i ≤ l.length → d + B + 8 < k →
    crc_Of.l0 k (v.toNat : Int) l (l.length : Int) (i : Int) = some ((con v ((l.drop i).flatMap fun s => s.data.toList)).toNat : Int) := by
  induction d with
  | zero =>
    intro k v i hd hi_ hk
    obtain ⟨k, rfl⟩ : ∃ m, k = m + 1 := ⟨k - 1, by omega⟩
    simp only [crc_Of.l0]
    rw [if_neg (by omega), List.drop_eq_nil_of_le (by omega)]; rfl
  | succ d ih =>
    intro k v i hd hi_ hk
    obtain ⟨k, rfl⟩ : ∃ m, k = m + 1 := ⟨k - 1, by omega⟩
    have hlt : i < l.length := by omega
    have hw : wrap64 ((i : Int) + 1) = ((i + 1 : Nat) : Int) := by unfold wrap64; omega
    have hr : rdOf ByteArray.empty l (i : Int) = l[i] := by unfold rdOf; simp [hlt]
    have hb := hB _ (List.getElem_mem hlt)
    simp only [crc_Of.l0]
    rw [if_pos (by omega), if_pos (by omega), if_pos (by omega), hr, on_is _ (by omega) _ _ (by omega)]
    simp only [Option.bind_some]
    rw [hw, ih _ _ _ (by omega) (by omega) (by omega), List.drop_eq_getElem_cons hlt, List.flatMap_cons, on_append]

def ff : BitVec 32 := 4294967295#32
theorem of_is (l : List ByteArray) (B : Nat) (hB : ∀ s ∈ l, s.size ≤ B) (hB' : B ≤ 140737488351232) (hl : l.length ≤ 100) (k : Nat) (hk : l.length + B + 8 < k) :
    crc_Of.f k l = some ((con ff (l.flatMap fun s => s.data.toList)).toNat : Int) := by
  unfold crc_Of.f
  have := of_loop l B hB hB' hl l.length k ff 0 (by omega) (by omega) (by omega)
  rw [List.drop_zero] at this
  exact this

theorem num_four (x : BitVec 32) : strOfNums [((x.toNat : Int) / 16777216) % 256, ((x.toNat : Int) / 65536) % 256, ((x.toNat : Int) / 256) % 256, (x.toNat : Int) % 256] = ⟨(cfour x).toArray⟩ := by
  unfold strOfNums cfour
  have key : ∀ n : Nat, UInt8.ofNat ((n : Int) % 256).toNat = UInt8.ofNat n := by
    intro n; apply UInt8.toNat_inj.1; simp only [UInt8.toNat_ofNat']; omega
  have e1 : ((x.toNat : Int) / 16777216) % 256 = ((x.toNat / 16777216 : Nat) : Int) % 256 := by omega
  have e2 : ((x.toNat : Int) / 65536) % 256 = ((x.toNat / 65536 : Nat) : Int) % 256 := by omega
  have e3 : ((x.toNat : Int) / 256) % 256 = ((x.toNat / 256 : Nat) : Int) % 256 := by omega
  simp only [List.map_cons, List.map_nil, e1, e2, e3, key]

theorem four_is (x : BitVec 32) : crc_Four.f (x.toNat : Int) = some ⟨(cfour x).toArray⟩ := by
  unfold crc_Four.f
  rw [num_four]

theorem awake_is (k : Nat) (hk : 100 < k) : dowserlaw02_awake.f k = some true := by
  unfold dowserlaw02_awake.f
  rw [of_is [(⟨#[49, 50, 51, 52, 53, 54, 55, 56, 57]⟩ : ByteArray)] 9 (fun s h => by rw [List.mem_singleton.1 h]; decide) (by omega) (by decide) k (by show 1 + 9 + 8 < k; omega)]
  have e : con ff (([(⟨#[49, 50, 51, 52, 53, 54, 55, 56, 57]⟩ : ByteArray)] : List ByteArray).flatMap fun s => s.data.toList) = 58124007#32 := by decide +kernel
  rw [e]
  simp only [Option.bind_some]
  rw [if_pos (by decide)]
  have h := four_is 258#32
  have h2 : (((258#32 : BitVec 32).toNat : Nat) : Int) = 258 := by decide
  rw [h2] at h
  rw [h]
  have e2 : (cfour 258#32) = [0, 0, 1, 2] := by decide
  simp only [Option.bind_some, ByteArray.toList_mk, e2]
  decide

theorem cut_is (s : ByteArray) (n : Nat) : dowserlaw01_Cut.f s (n : Int) = some (s.extract 0 n) := by
  unfold dowserlaw01_Cut.f
  by_cases h : (s.size : Int) > n
  · rw [if_pos h, if_pos (by omega), if_pos (by omega)]; simp
  · rw [if_neg h]
    congr 1
    apply ByteArray.ext
    have hz : s.data.size ≤ n := by have : s.size = s.data.size := rfl; omega
    rw [ByteArray.data_extract, Array.extract_eq_self_of_le hz]

/-! The document's. -/
theorem ref_bit (k : Nat) (v : BitVec 32) (s : ByteArray) (i : Int) (b w : Nat) (hb : b < 256) (hw0 : 0 < w) (hw : w ≤ 128) :
    dowserref02_On.l1 (k + 1) (v.toNat : Int) s i (b : Int) (w : Int) = dowserref02_On.l1 k ((crstep v (b / w % 2 == 1)).toNat : Int) s i (b : Int) ((w / 2 : Nat) : Int) := by
  have hq : b / w < 256 := Nat.lt_of_le_of_lt (Nat.div_le_self _ _) hb
  have h1 : wrap64 (Int.tdiv (b : Int) (w : Int)) = ((b / w : Nat) : Int) := by
    have e : Int.tdiv (b : Int) (w : Int) = ((b / w : Nat) : Int) := rfl
    rw [e]; generalize b / w = q at hq; unfold wrap64; omega
  have h2 : Int.tmod ((b / w : Nat) : Int) 2 = ((b / w % 2 : Nat) : Int) := rfl
  have h3 : wrap64 (Int.tdiv (w : Int) 2) = ((w / 2 : Nat) : Int) := by
    have : Int.tdiv (w : Int) 2 = ((w / 2 : Nat) : Int) := rfl
    rw [this]; unfold wrap64; omega
  have h4 : ((((b / w % 2 : Nat) : Int) == 1) : Bool) = (b / w % 2 == 1) := by
    rw [Bool.eq_iff_iff]; simp; omega
  simp only [dowserref02_On.l1]
  rw [if_pos (by omega), if_neg (by omega), h1, h2, h3, h4, msb_ge, add_self]
  unfold crstep
  cases hc : ((b / w % 2 == 1) != v.msb) with
  | true =>
    have hp : (79764919 : Int) = (cpoly.toNat : Int) := rfl
    rw [if_pos rfl, if_pos rfl, hp, bits_xor]
  | false =>
    rw [if_neg (by simp), if_neg (by simp), BitVec.xor_zero]

theorem ref_loop (s : ByteArray) (hs : s.size ≤ 140737488351232) (d : Nat) : ∀ (k : Nat) (v : BitVec 32) (i : Nat), s.size - i = d → i ≤ s.size → 10 * d < k →
    dowserref02_On.l0 k (v.toNat : Int) s (i : Int) = some ((con v (s.data.toList.drop i)).toNat : Int) := by
  induction d with
  | zero =>
    intro k v i hd hi_ hk
    obtain ⟨k, rfl⟩ : ∃ m, k = m + 1 := ⟨k - 1, by omega⟩
    simp only [dowserref02_On.l0]
    rw [if_neg (by omega), List.drop_eq_nil_of_le (by simp; omega)]; rfl
  | succ d ih =>
    intro k v i hd hi_ hk
    obtain ⟨k, rfl⟩ : ∃ m, k = m + 10 := ⟨k - 10, by omega⟩
    have hlt : i < s.size := by omega
    have hw : wrap64 ((i : Int) + 1) = ((i + 1 : Nat) : Int) := by unfold wrap64; omega
    have hb := (s[i]).toNat_lt
    have hwb : wrap64 (((s[i]).toNat : Nat) : Int) = (((s[i]).toNat : Nat) : Int) := by unfold wrap64; omega
    have e0 : dowserref02_On.l0 (k + 10) (v.toNat : Int) s (i : Int) = dowserref02_On.l1 (k + 9) (v.toNat : Int) s (i : Int) (((s[i]).toNat : Nat) : Int) ((128 : Nat) : Int) := by
      simp only [dowserref02_On.l0]
      rw [if_pos (by omega), if_pos (by omega), bt_at' s i hlt, hwb]; rfl
    rw [e0, ref_bit _ _ _ _ _ 128 hb (by omega) (by omega), ref_bit _ _ _ _ _ (128 / 2) hb (by omega) (by omega), ref_bit _ _ _ _ _ (128 / 2 / 2) hb (by omega) (by omega), ref_bit _ _ _ _ _ (128 / 2 / 2 / 2) hb (by omega) (by omega), ref_bit _ _ _ _ _ (128 / 2 / 2 / 2 / 2) hb (by omega) (by omega), ref_bit _ _ _ _ _ (128 / 2 / 2 / 2 / 2 / 2) hb (by omega) (by omega), ref_bit _ _ _ _ _ (128 / 2 / 2 / 2 / 2 / 2 / 2) hb (by omega) (by omega), ref_bit _ _ _ _ _ (128 / 2 / 2 / 2 / 2 / 2 / 2 / 2) hb (by omega) (by omega)]
    simp only [dowserref02_On.l1]
    rw [if_neg (by omega), hw]
    have hr := rsteps_eq v s[i]
    unfold crsteps at hr
    have := ih k (cones (v ^^^ chi s[i])) (i + 1) (by omega) (by omega) (by omega)
    rw [drop_at s i hlt, on_cons, ← this, ← hr]

theorem ref_is (s : ByteArray) (hs : s.size ≤ 140737488351232) (v : BitVec 32) (k : Nat) (hk : 10 * s.size < k) :
    dowserref02_On.f k (v.toNat : Int) s = some ((con v s.data.toList).toNat : Int) := by
  unfold dowserref02_On.f
  have := ref_loop s hs s.size k v 0 (by omega) (by omega) hk
  simpa using this

theorem ref_of_is (s : ByteArray) (hs : s.size ≤ 140737488351232) (k : Nat) (hk : 10 * s.size < k) :
    dowserref02_Of.f k s = some ((con ff s.data.toList).toNat : Int) := by
  unfold dowserref02_Of.f
  have h : (4294967295 : Int) = ((ff.toNat : Nat) : Int) := rfl
  rw [h, ref_is s hs ff k hk]; rfl

theorem ref_four_is (x : BitVec 32) : dowserref02_Four.f (x.toNat : Int) = some ⟨(cfour x).toArray⟩ := by
  unfold dowserref02_Four.f
  rw [← num_four]
  have hx := x.isLt
  have e1 : Int.tdiv (x.toNat : Int) 16777216 = ((x.toNat / 16777216 : Nat) : Int) := rfl
  have e2 : Int.tdiv (x.toNat : Int) 65536 = ((x.toNat / 65536 : Nat) : Int) := rfl
  have e3 : Int.tdiv (x.toNat : Int) 256 = ((x.toNat / 256 : Nat) : Int) := rfl
  have e4 : Int.tmod (x.toNat : Int) 256 = ((x.toNat % 256 : Nat) : Int) := rfl
  rw [e1, e2, e3, e4]
  congr 2
  rw [show ((((x.toNat / 16777216 : Nat) : Int) % 4294967296) % 256) = ((x.toNat : Int) / 16777216) % 256 by omega, show ((((x.toNat / 65536 : Nat) : Int) % 4294967296) % 256) = ((x.toNat : Int) / 65536) % 256 by omega, show ((((x.toNat / 256 : Nat) : Int) % 4294967296) % 256) = ((x.toNat : Int) / 256) % 256 by omega, show (((x.toNat % 256 : Nat) : Int) % 256) = (x.toNat : Int) % 256 by omega]

theorem ext_list (s : ByteArray) (a b : Nat) : (s.extract a b).data.toList = (s.data.toList.take b).drop a := by
  rw [ByteArray.data_extract, Array.toList_extract, List.extract_eq_take_drop, List.drop_take]

theorem CrcIs : dowserlaw02_CrcIs.Pure := by
  intro a0 a1 hs hwf
  refine ⟨5000, ?_⟩
  unfold dowserlaw02_CrcIs.f
  rw [awake_is _ (by omega)]
  simp only [Option.bind_some, if_true]
  have hc := cut_is a0 200
  rw [show (((200 : Nat) : Int)) = (200 : Int) from rfl] at hc
  rw [hc]
  simp only [Option.bind_some]
  generalize hS : a0.extract 0 200 = S
  have hn : S.size ≤ 200 := by rw [← hS, ByteArray.size_extract]; omega
  obtain ⟨c, hcn, hcS⟩ : ∃ c : Nat, mx 0 (mn a1 (S.size : Int)) = (c : Int) ∧ c ≤ S.size := by
    refine ⟨(mx 0 (mn a1 (S.size : Int))).toNat, ?_, ?_⟩ <;> unfold mx mn <;> (repeat' split) <;> omega
  rw [hcn, if_pos (by omega), if_pos (by omega)]
  have hA : (S.extract 0 c).size = c := by rw [ByteArray.size_extract]; omega
  have hB : (S.extract c S.size).size = S.size - c := by rw [ByteArray.size_extract]; omega
  have hAB : (S.extract 0 c).data.toList ++ (S.extract c S.size).data.toList = S.data.toList := by
    rw [ext_list, ext_list, List.drop_zero]
    have : S.data.toList.take S.size = S.data.toList := List.take_of_length_le (by rw [Array.length_toList]; exact Nat.le_refl _)
    rw [this, List.take_append_drop]
  have p1 := of_is [S] 200 (fun s h => by rw [List.mem_singleton.1 h]; exact hn) (by omega) (by simp only [List.length_cons, List.length_nil]; omega) 5000 (by simp only [List.length_cons, List.length_nil]; omega)
  have p2 := ref_of_is S (by omega) 5000 (by omega)
  have p3 := of_is [S.extract 0 c, ⟨#[]⟩, S.extract c S.size] 200 (by
    intro s h
    simp only [List.mem_cons, List.not_mem_nil, or_false] at h
    rcases h with rfl | rfl | rfl
    · omega
    · simp [ByteArray.size]
    · omega) (by omega) (by simp only [List.length_cons, List.length_nil]; omega) 5000 (by simp only [List.length_cons, List.length_nil]; omega)
  have p4 := of_is [S.extract 0 c] 200 (fun s h => by rw [List.mem_singleton.1 h]; omega) (by omega) (by simp only [List.length_cons, List.length_nil]; omega) 5000 (by simp only [List.length_cons, List.length_nil]; omega)
  simp only [List.flatMap_cons, List.flatMap_nil, List.append_nil, List.nil_append, hAB] at p1 p3 p4
  generalize hX : con ff S.data.toList = X at p1 p2 p3
  have p5 := on_is (S.extract c S.size) (by omega) (con ff (S.extract 0 c).data.toList) 5000 (by omega)
  rw [← on_append, hAB, hX] at p5
  have p6 := four_is X
  have p7 := ref_four_is X
  have p8 := of_is [S, ⟨(cfour X).toArray⟩] 200 (by
    intro s h
    simp only [List.mem_cons, List.not_mem_nil, or_false] at h
    rcases h with rfl | rfl
    · omega
    · simp [ByteArray.size, cfour]) (by omega) (by simp only [List.length_cons, List.length_nil]; omega) 5000 (by simp only [List.length_cons, List.length_nil]; omega)
  simp only [List.flatMap_cons, List.flatMap_nil, List.append_nil, on_append, hX, on_own] at p8
  simp only [Int.toNat_natCast]
  rw [p1]; simp only [Option.bind_some]
  rw [p2]; simp only [Option.bind_some, if_true]
  rw [p3]; simp only [Option.bind_some, if_true]
  rw [p4]; simp only [Option.bind_some]
  rw [p5]; simp only [Option.bind_some, if_true]
  rw [p6]; simp only [Option.bind_some]
  rw [p7]; simp only [Option.bind_some, if_true]
  rw [p8]; rfl

end Go.Proofs.Ytfkgidiedpkbdaa.Pure
