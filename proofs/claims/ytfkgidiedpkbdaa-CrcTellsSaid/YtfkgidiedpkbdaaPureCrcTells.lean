/- Other bytes one behind the other, up to four of them: another sum. The pure statement of CrcTells, for every text, every place and every number. -/
import Derived.Test.YtfkgidiedpkbdaaPDx1
import Derived.Test.YtfkgidiedpkbdaaPDx2
import Derived.Test.YtfkgidiedpkbdaaPDx3
import Derived.Test.YtfkgidiedpkbdaaPDx4
import Derived.Test.YtfkgidiedpkbdaaCrcPlain
namespace Go.Proofs.Ytfkgidiedpkbdaa.Pure
open Go.RowKit Go.Proofs.Ytfkgidiedpkbdaa.PD Go.Proofs.YtfkgidiedpkbdaaW.PrintWords Go.Proofs.YtfkgidiedpkbdaaW.PrintLast Go.Proofs.Ytfkgidiedpkbdaa.CrcPlain
set_option linter.unusedSimpArgs false

theorem eight_is (v : BitVec 32) (k : Nat) (hk : 8 < k) : crc_eight.f k (v.toNat : Int) = some ((cones v).toNat : Int) := by
  have one : ∀ (k : Nat) (v : BitVec 32) (i : Int), 0 ≤ i → i < 8 → crc_eight.l0 (k + 1) (v.toNat : Int) i = crc_eight.l0 k ((cstep v).toNat : Int) (i + 1) := by
    intro k v i h0 h1
    have hw : wrap64 (i + 1) = i + 1 := by unfold wrap64; omega
    simp only [crc_eight.l0]
    rw [if_pos h1, hw, shl_one]
    unfold cstep
    cases hm : v.msb with
    | true =>
      have hn : ¬ Go.bits .and .u32 (v.toNat : Int) 2147483648 = 0 := fun h => by rw [bits_top, hm] at h; cases h
      rw [if_neg hn]
      have hp : (79764919 : Int) = (cpoly.toNat : Int) := rfl
      rw [hp, bits_xor]
      rfl
    | false =>
      rw [if_pos ((bits_top v).2 hm)]
      simp
  obtain ⟨k, rfl⟩ : ∃ m, k = m + 9 := ⟨k - 9, by omega⟩
  unfold crc_eight.f
  rw [one _ _ _ (by omega) (by omega), one _ _ _ (by omega) (by omega), one _ _ _ (by omega) (by omega), one _ _ _ (by omega) (by omega), one _ _ _ (by omega) (by omega), one _ _ _ (by omega) (by omega), one _ _ _ (by omega) (by omega), one _ _ _ (by omega) (by omega)]
  simp only [crc_eight.l0]
  rw [if_neg (by omega)]
  rfl

theorem drop_at (s : ByteArray) (i : Nat) (h : i < s.size) : s.data.toList.drop i = s[i] :: s.data.toList.drop (i + 1) := by
  rw [List.drop_eq_getElem_cons (by simpa using h)]; rfl

theorem bt_at' (s : ByteArray) (i : Nat) (h : i < s.size) : bt s (i : Int) = ((s[i]).toNat : Int) := by
  unfold bt; simp [h]

theorem byte_hi (b : UInt8) : (((b.toNat : Int) % 4294967296) * 16777216) % 4294967296 = ((chi b).toNat : Int) := by
  have := b.toNat_lt
  unfold chi; rw [BitVec.toNat_ofNat]; omega

theorem on_loop (s : ByteArray) (hs : s.size ≤ 140737488351232) (d : Nat) : ∀ (k : Nat) (v : BitVec 32) (i : Nat), s.size - i = d → i ≤ s.size → d + 8 < k →
    crc_On.l0 k (v.toNat : Int) s (s.size : Int) (i : Int) = some ((con v (s.data.toList.drop i)).toNat : Int) := by
  induction d with
  | zero =>
    intro k v i hd hi_ hk
    obtain ⟨k, rfl⟩ : ∃ m, k = m + 1 := ⟨k - 1, by omega⟩
    simp only [crc_On.l0]
    rw [if_neg (by omega), List.drop_eq_nil_of_le (by simp; omega)]; rfl
  | succ d ih =>
    intro k v i hd hi_ hk
    obtain ⟨k, rfl⟩ : ∃ m, k = m + 1 := ⟨k - 1, by omega⟩
    have hlt : i < s.size := by omega
    have hw : wrap64 ((i : Int) + 1) = ((i + 1 : Nat) : Int) := by unfold wrap64; omega
    simp only [crc_On.l0]
    rw [if_pos (by omega), if_pos (by omega), if_pos (by omega), bt_at' s i hlt, byte_hi, bits_xor, eight_is _ _ (by omega)]
    simp only [Option.bind_some]
    rw [hw, ih _ _ _ (by omega) (by omega) (by omega), drop_at s i hlt, on_cons]

theorem on_is (s : ByteArray) (hs : s.size ≤ 140737488351232) (v : BitVec 32) (k : Nat) (hk : s.size + 8 < k) :
    crc_On.f k (v.toNat : Int) s = some ((con v s.data.toList).toNat : Int) := by
  unfold crc_On.f
  have := on_loop s hs s.size k v 0 (by omega) (by omega) hk
  simpa using this

theorem of_loop (l : List ByteArray) (B : Nat) (hB : ∀ s ∈ l, s.size ≤ B) (hB' : B ≤ 140737488351232) (hl : l.length ≤ 100) (d : Nat) : ∀ (k : Nat) (v : BitVec 32) (i : Nat), l.length - i = d → i ≤ l.length → d + B + 8 < k →
    crc_Of.l0 k (v.toNat : Int) l (l.length : Int) (i : Int) = some ((con v ((l.drop i).flatMap fun s => s.data.toList)).toNat : Int) := by
  induction d with
  | zero =>
    intro k v i hd hi_ hk
    obtain ⟨k, rfl⟩ : ∃ m, k = m + 1 := ⟨k - 1, by omega⟩
    simp only [crc_Of.l0]
    rw [if_neg (by omega), List.drop_eq_nil_of_le (by omega)]; rfl
  | succ d ih =>
    intro k v i hd hi_ hk
    obtain ⟨k, rfl⟩ : ∃ m, k = m + 1 := ⟨k - 1, by omega⟩
    have hlt : i < l.length := by omega
    have hw : wrap64 ((i : Int) + 1) = ((i + 1 : Nat) : Int) := by unfold wrap64; omega
    have hr : rdOf ByteArray.empty l (i : Int) = l[i] := by unfold rdOf; simp [hlt]
    have hb := hB _ (List.getElem_mem hlt)
    simp only [crc_Of.l0]
    rw [if_pos (by omega), if_pos (by omega), if_pos (by omega), hr, on_is _ (by omega) _ _ (by omega)]
    simp only [Option.bind_some]
    rw [hw, ih _ _ _ (by omega) (by omega) (by omega), List.drop_eq_getElem_cons hlt, List.flatMap_cons, on_append]

def ff : BitVec 32 := 4294967295#32
theorem of_is (l : List ByteArray) (B : Nat) (hB : ∀ s ∈ l, s.size ≤ B) (hB' : B ≤ 140737488351232) (hl : l.length ≤ 100) (k : Nat) (hk : l.length + B + 8 < k) :
    crc_Of.f k l = some ((con ff (l.flatMap fun s => s.data.toList)).toNat : Int) := by
  unfold crc_Of.f
  have := of_loop l B hB hB' hl l.length k ff 0 (by omega) (by omega) (by omega)
  rw [List.drop_zero] at this
  exact this

theorem num_four (x : BitVec 32) : strOfNums [((x.toNat : Int) / 16777216) % 256, ((x.toNat : Int) / 65536) % 256, ((x.toNat : Int) / 256) % 256, (x.toNat : Int) % 256] = ⟨(cfour x).toArray⟩ := by
  unfold strOfNums cfour
  have key : ∀ n : Nat, UInt8.ofNat ((n : Int) % 256).toNat = UInt8.ofNat n := by
    intro n; apply UInt8.toNat_inj.1; simp only [UInt8.toNat_ofNat']; omega
  have e1 : ((x.toNat : Int) / 16777216) % 256 = ((x.toNat / 16777216 : Nat) : Int) % 256 := by omega
  have e2 : ((x.toNat : Int) / 65536) % 256 = ((x.toNat / 65536 : Nat) : Int) % 256 := by omega
  have e3 : ((x.toNat : Int) / 256) % 256 = ((x.toNat / 256 : Nat) : Int) % 256 := by omega
  simp only [List.map_cons, List.map_nil, e1, e2, e3, key]

theorem four_is (x : BitVec 32) : crc_Four.f (x.toNat : Int) = some ⟨(cfour x).toArray⟩ := by
  unfold crc_Four.f
  rw [num_four]

theorem awake_is (k : Nat) (hk : 100 < k) : dowserlaw02_awake.f k = some true := by
  unfold dowserlaw02_awake.f
  rw [of_is [(⟨#[49, 50, 51, 52, 53, 54, 55, 56, 57]⟩ : ByteArray)] 9 (fun s h => by rw [List.mem_singleton.1 h]; decide) (by omega) (by decide) k (by show 1 + 9 + 8 < k; omega)]
  have e : con ff (([(⟨#[49, 50, 51, 52, 53, 54, 55, 56, 57]⟩ : ByteArray)] : List ByteArray).flatMap fun s => s.data.toList) = 58124007#32 := by decide +kernel
  rw [e]
  simp only [Option.bind_some]
  rw [if_pos (by decide)]
  have h := four_is 258#32
  have h2 : (((258#32 : BitVec 32).toNat : Nat) : Int) = 258 := by decide
  rw [h2] at h
  rw [h]
  have e2 : (cfour 258#32) = [0, 0, 1, 2] := by decide
  simp only [Option.bind_some, ByteArray.toList_mk, e2]
  decide

theorem cut_is (s : ByteArray) (n : Nat) : dowserlaw01_Cut.f s (n : Int) = some (s.extract 0 n) := by
  unfold dowserlaw01_Cut.f
  by_cases h : (s.size : Int) > n
  · rw [if_pos h, if_pos (by omega), if_pos (by omega)]; simp
  · rw [if_neg h]
    congr 1
    apply ByteArray.ext
    have hz : s.data.size ≤ n := by have : s.size = s.data.size := rfl; omega
    rw [ByteArray.data_extract, Array.extract_eq_self_of_le hz]


theorem mix_four (P R : List UInt8) (a b c d q0 q1 q2 q3 : UInt8) : mix (P ++ a :: b :: c :: d :: R) P.length [q0, q1, q2, q3] 4 = P ++ (a ^^^ q0) :: (b ^^^ q1) :: (c ^^^ q2) :: (d ^^^ q3) :: R := by
  simp [mix, List.set_append, List.getElem?_append, List.getD]

theorem con_zero (v : BitVec 32) : con 0#32 (cfour v) = con v [0, 0, 0, 0] := by
  have h := on_xor (cfour v) (cfour v) rfl v 0#32
  rw [on_own, BitVec.zero_xor, BitVec.xor_zero] at h
  rw [h]
  unfold cfour
  simp only [List.zipWith_cons_cons, List.zipWith_nil_left, UInt8.xor_self]

theorem con_none (v : BitVec 32) : con 0#32 (cfour v) = 0#32 ↔ v = 0#32 := by
  rw [con_zero]
  have h0 : con 0#32 [0, 0, 0, 0] = 0#32 := by decide +kernel
  constructor
  · intro h; exact on_inj _ _ _ (h.trans h0.symm)
  · rintro rfl; exact h0

theorem tells (P R : List UInt8) (a b c d : UInt8) (v : BitVec 32) (q0 q1 q2 q3 : UInt8) (hq : cfour v = [q0, q1, q2, q3]) :
    con ff (P ++ (a ^^^ q0) :: (b ^^^ q1) :: (c ^^^ q2) :: (d ^^^ q3) :: R) = con ff (P ++ a :: b :: c :: d :: R) ↔ v = 0#32 := by
  have key : con (con ff P) [a ^^^ q0, b ^^^ q1, c ^^^ q2, d ^^^ q3] ^^^ con (con ff P) [a, b, c, d] = con 0#32 (cfour v) := by
    rw [on_xor [a ^^^ q0, b ^^^ q1, c ^^^ q2, d ^^^ q3] [a, b, c, d] rfl _ _, BitVec.xor_self, hq]
    have e : ∀ x y : UInt8, x ^^^ y ^^^ x = y := fun x y => by rw [UInt8.xor_comm x y, UInt8.xor_assoc, UInt8.xor_self, UInt8.xor_zero]
    simp only [List.zipWith_cons_cons, List.zipWith_nil_left, e]
  rw [on_append, on_append]
  have e1 : ∀ (s : BitVec 32) (x y z u : UInt8), con s (x :: y :: z :: u :: R) = con (con s [x, y, z, u]) R := fun s x y z u => on_append s [x, y, z, u] R
  rw [e1, e1, ← con_none, ← key]
  constructor
  · intro h; exact xor_none.2 (on_inj _ _ _ h)
  · intro h; rw [xor_none.1 h]

theorem CrcTells : dowserlaw02_CrcTells.Pure := by
  intro a0 a1 a2 hs hw1 hwf
  refine ⟨5000, ?_⟩
  unfold dowserlaw02_CrcTells.f
  rw [awake_is _ (by omega)]
  simp only [Option.bind_some, if_true]
  have hc := cut_is a0 200
  rw [show (((200 : Nat) : Int)) = (200 : Int) from rfl] at hc
  rw [hc]
  simp only [Option.bind_some]
  generalize hS : a0.extract 0 200 = t
  have hn : t.size ≤ 200 := by rw [← hS, ByteArray.size_extract]; omega
  obtain ⟨v, rfl⟩ : ∃ v : BitVec 32, a2 = (v.toNat : Int) := by
    simp [Lit.wf, IntKind.min, IntKind.max, IntKind.bits, IntKind.signed] at hwf
    refine ⟨BitVec.ofNat 32 a2.toNat, ?_⟩
    rw [BitVec.toNat_ofNat]; omega
  rw [four_is]
  simp only [Option.bind_some]
  rw [if_pos ⟨hn, rfl⟩]
  obtain ⟨hl1, hl2⟩ := long_le t hn
  generalize long t = s at hl1 hl2 ⊢
  have hpl := (place_is a1 (s.size - 3) (by omega) (by omega)).2
  generalize place a1 (s.size - 3) = kk at hpl ⊢
  obtain ⟨T, hT⟩ : ∃ T, T = s.data.toList := ⟨_, rfl⟩
  have hTl : T.length = s.size := by rw [hT]; simp
  obtain ⟨q0, q1, q2, q3, hq⟩ : ∃ q0 q1 q2 q3, cfour v = [q0, q1, q2, q3] := ⟨_, _, _, _, rfl⟩
  obtain ⟨P, R, a, b, c, d, hPR, hPl⟩ : ∃ P R a b c d, T = P ++ a :: b :: c :: d :: R ∧ P.length = kk := by
    refine ⟨T.take kk, T.drop (kk + 4), T[kk]'(by omega), T[kk + 1]'(by omega), T[kk + 2]'(by omega), T[kk + 3]'(by omega), ?_, by rw [List.length_take]; omega⟩
    rw [← List.drop_eq_getElem_cons, ← List.drop_eq_getElem_cons, ← List.drop_eq_getElem_cons, ← List.drop_eq_getElem_cons, List.take_append_drop]
  have hm : mix s.data.toList kk (cfour v) 4 = P ++ (a ^^^ q0) :: (b ^^^ q1) :: (c ^^^ q2) :: (d ^^^ q3) :: R := by
    rw [← hT, hPR, ← hPl, hq]; exact mix_four P R a b c d q0 q1 q2 q3
  have hml : (mix s.data.toList kk (cfour v) 4).length = s.size := by rw [mix_len, ← hT, hTl]
  have p1 := of_is [(⟨(mix s.data.toList kk (cfour v) 4).toArray⟩ : ByteArray)] 200 (fun s' h => by rw [List.mem_singleton.1 h]; show (mix s.data.toList kk (cfour v) 4).toArray.size ≤ 200; rw [List.size_toArray, hml]; exact hl1) (by omega) (by simp only [List.length_cons, List.length_nil]; omega) 5000 (by simp only [List.length_cons, List.length_nil]; omega)
  have p2 := of_is [s] 200 (fun s' h => by rw [List.mem_singleton.1 h]; exact hl1) (by omega) (by simp only [List.length_cons, List.length_nil]; omega) 5000 (by simp only [List.length_cons, List.length_nil]; omega)
  simp only [List.flatMap_cons, List.flatMap_nil, List.append_nil] at p1 p2
  have hk := tells P R a b c d v q0 q1 q2 q3 hq
  rw [← hm, ← hPR, hT] at hk
  simp only [p1, p2, Option.bind_some]
  rw [if_pos]
  rw [beq_iff_eq, Bool.eq_iff_iff, beq_iff_eq, beq_iff_eq]
  constructor
  · intro h
    have h1 : con ff (mix s.data.toList kk (cfour v) 4) = con ff s.data.toList := BitVec.eq_of_toNat_eq (by omega)
    rw [hk.1 h1]; rfl
  · intro h
    have h1 : v = 0#32 := BitVec.eq_of_toNat_eq (by simpa using h)
    rw [hk.2 h1]
end Go.Proofs.Ytfkgidiedpkbdaa.Pure
