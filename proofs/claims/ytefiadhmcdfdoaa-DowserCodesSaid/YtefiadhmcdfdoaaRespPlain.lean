/- A response of one list: its bytes, and what they are read as. Conditions: at most 40 numbers, of 31 bits. -/
import Derived.Test.YtefiadhmcdfdoaaPDx3
import Derived.Test.YtefiadhmcdfdoaaPDx4
import Derived.Test.YtefiadhmcdfdoaaPDx5
import Derived.Test.YtefiadhmcdfdoaaSetEnc
import Derived.Test.YtefiadhmcdfdoaaVarTxt
namespace Go.Proofs.Ytefiadhmcdfdoaa.PD
open Go.RowKit Go.Proofs.YtefiadhmcdfdoaaW.PrintWords Go.Proofs.YtefiadhmcdfdoaaW.PrintLast Go.Proofs.YtefiadhmcdfdoaaW.PrintMore Go.Proofs.Ytefiadhmcdfdoaa.VarPlain Go.Proofs.Ytefiadhmcdfdoaa.SetPlain
set_option linter.unusedVariables false
def encL : List Int → List UInt8
  | [] => []
  | x :: l => enc x.toNat ++ encL l
def inR (l : List Int) : Prop := ∀ x ∈ l, 0 ≤ x ∧ x ≤ 2147483647
theorem encL_len : ∀ (l : List Int), inR l → (encL l).length ≤ 10 * l.length
  | [], _ => by simp [encL]
  | x :: l, h => by
    have ih := encL_len l (fun q hq => h q (List.mem_cons_of_mem _ hq))
    have hx := h x (by simp)
    have h1 := enc_len_u64 (x := x.toNat) (by omega)
    simp only [encL, List.length_append, List.length_cons]
    omega
theorem nums_loop (l : List Int) (hl : l.length ≤ 1000) (hn : inR l) (d : Nat) : ∀ (k i : Nat) (acc : List UInt8), l.length - i = d → i ≤ l.length → d + 11 < k → acc.length ≤ 20 + 10 * i →
    request_nums.l0 k l i acc = some (mkS (acc ++ encL (l.drop i))) := by
  induction d with
  | zero =>
    intro k i acc hd hi hk ha
    obtain ⟨k, rfl⟩ : ∃ m, k = m + 1 := ⟨k - 1, by omega⟩
    rw [request_nums.l0, if_neg (by omega), List.drop_of_length_le (by omega)]
    unfold encL mkS; rw [List.append_nil]
  | succ d ih =>
    intro k i acc hd hi hk ha
    obtain ⟨k, rfl⟩ : ∃ m, k = m + 1 := ⟨k - 1, by omega⟩
    have hil : i < l.length := by omega
    have hx := hn l[i] (List.getElem_mem hil)
    have h1 := enc_len_u64 (x := l[i].toNat) (by omega)
    have g0 : varint_Num.f k (IntKind.u64.wrap l[i]) = some (mkS (enc l[i].toNat)) := by
      rw [u64_in (by omega) (by omega)]
      have := num_is k l[i].toNat (by omega) (by omega)
      rwa [show ((l[i].toNat : Nat) : Int) = l[i] by omega] at this
    rw [request_nums.l0, if_pos hil, rd_at l i hil, g0]
    simp only [Option.bind_some]
    rw [if_pos (by rw [size_mk]; omega)]
    have := ih k (i + 1) (acc ++ enc l[i].toNat) (by omega) (by omega) (by omega) (by rw [List.length_append]; omega)
    rw [List.drop_eq_getElem_cons hil, encL]
    refine this.trans ?_
    rw [List.append_assoc]
theorem nums_is (k : Nat) (l : List Int) (hl : l.length ≤ 1000) (hn : inR l) (hk : l.length + 11 < k) : request_nums.f k l = some (mkS (encL l)) := by
  have := nums_loop l hl hn l.length k 0 [] (by omega) (by omega) hk (by simp)
  rw [List.drop_zero, List.nil_append] at this
  exact this
theorem nums_one (k x : Nat) (hx : x ≤ 2147483647) (hk : 20 < k) : request_nums.f k [(x : Int)] = some (mkS (enc x)) := by
  have := nums_is k [(x : Int)] (by simp) (fun y hy => by rw [List.mem_singleton] at hy; omega) (by simp; omega)
  rw [this]
  simp [encL]
theorem text_empty (k : Nat) (hk : 20 < k) : varint_Text.f k (⟨#[]⟩ : ByteArray) = some (mkS (enc 0)) := by
  unfold varint_Text.f
  have h1 := enc_len_u64 (x := 0) (by omega)
  have h0 : ((⟨#[]⟩ : ByteArray).size : Int) = ((0 : Nat) : Int) := rfl
  rw [if_pos (by decide), h0, num_is k 0 (by omega) (by omega)]
  simp only [Option.bind_some]
  rw [if_pos (by rw [size_mk]; show (enc 0).length + 0 ≤ _; omega)]
  show some (mkS (enc 0) ++ mkS []) = _
  rw [append_mk, List.append_nil]
def respB (l : List Int) : List UInt8 := enc 0 ++ (enc 1 ++ (enc l.length ++ (encL l ++ enc 0)))
theorem resp_is (k : Nat) (l : List Int) (hl : l.length ≤ 40) (hn : inR l) (hk : 100 < k) : request_Response_Encode.f k 0 [l] (⟨#[]⟩ : ByteArray) = some (mkS (respB l)) := by
  obtain ⟨k, rfl⟩ : ∃ m, k = m + 2 := ⟨k - 2, by omega⟩
  have e0 := enc_len_u64 (x := 0) (by omega)
  have e1 := enc_len_u64 (x := 1) (by omega)
  have e2 := enc_len_u64 (x := l.length) (by omega)
  have e3 := encL_len l hn
  have hrd : rd_L2 [l] (((0 : Nat) : Int)) = l := rfl
  unfold request_Response_Encode.f
  rw [show ([(0 : Int)] : List Int) = [((0 : Nat) : Int)] from rfl, nums_one (k + 2) 0 (by omega) (by omega)]
  simp only [Option.bind_some, if_true]
  rw [show ([([l].length : Int)] : List Int) = [((1 : Nat) : Int)] from rfl, nums_one (k + 2) 1 (by omega) (by omega)]
  simp only [Option.bind_some]
  rw [if_pos (by rw [size_mk, size_mk]; omega), append_mk, request_Response_Encode.l0, if_pos (by simp), if_pos (by omega), if_pos (by simp)]
  rw [show (0 : Int) = ((0 : Nat) : Int) from rfl, hrd, nums_one (k + 1) l.length (by omega) (by omega)]
  simp only [Option.bind_some]
  rw [nums_is (k + 1) l (by omega) hn (by omega)]
  simp only [Option.bind_some]
  rw [if_pos (by rw [size_mk, size_mk]; omega), append_mk, if_pos (by rw [size_mk, size_mk]; simp only [List.length_append]; omega), append_mk]
  rw [request_Response_Encode.l0, w64 (by omega) (by omega), if_neg (by simp), text_empty k (by omega)]
  simp only [Option.bind_some]
  rw [if_pos (by rw [size_mk, size_mk]; simp only [List.length_append]; omega), append_mk]
  unfold respB
  simp only [List.append_assoc]
theorem parse_loop (l : List Int) (hl : l.length ≤ 40) (hn : inR l) (rest : List UInt8) (hr : rest.length ≤ 100) (d : Nat) : ∀ (k i : Nat), l.length - i = d → i ≤ l.length → 2000 + d < k →
    request_Parse.l1 k (l.take i) (d : Int) 1 0 (mkS (encL (l.drop i) ++ rest)) 0 0 [] (⟨#[]⟩ : ByteArray) = request_Parse.l0 (k - d - 1) 1 1 (mkS rest) 0 0 [l] (⟨#[]⟩ : ByteArray) := by
  induction d with
  | zero =>
    intro k i hd hi hk
    obtain ⟨k, rfl⟩ : ∃ m, k = m + 1 := ⟨k - 1, by omega⟩
    rw [request_Parse.l1, if_neg (by simp), if_pos (by simp), List.drop_of_length_le (by omega), List.take_of_length_le (by omega)]
    have hu : IntKind.u64.wrap ((0 : Int) + 1) = 1 := by rw [u64_in (by omega) (by omega)]; rfl
    rw [hu]; rfl
  | succ d ih =>
    intro k i hd hi hk
    obtain ⟨k, rfl⟩ : ∃ m, k = m + 1 := ⟨k - 1, by omega⟩
    have hil : i < l.length := by omega
    have hx := hn l[i] (List.getElem_mem hil)
    have hdl := encL_len (l.drop (i + 1)) (fun q hq => hn q (List.mem_of_mem_drop hq))
    rw [List.length_drop] at hdl
    have h1 := enc_len_u64 (x := l[i].toNat) (by omega)
    have hE : encL (l.drop i) ++ rest = enc l[i].toNat ++ (encL (l.drop (i + 1)) ++ rest) := by rw [List.drop_eq_getElem_cons hil, encL, List.append_assoc]
    have hin := innum_is k (mkS (encL (l.drop i) ++ rest)) 0 2147483647 (by rw [size_mk, hE]; simp only [List.length_append]; omega) (by rw [size_mk, hE]; simp only [List.length_append]; omega)
    rw [lst_mk, hE, rNum_enc _ _ _ (by omega) (by omega), show ((2147483647 : Nat) : Int) = 2147483647 from rfl] at hin
    rw [request_Parse.l1, if_pos (by omega), hE, hin]
    simp only [Option.bind_some]
    rw [if_pos (by rw [List.length_take]; omega), err_is]
    simp only [Option.bind_some, if_true]
    rw [show ((l[i].toNat : Nat) : Int) = l[i] by omega, w64 (by omega) (by omega), show ((d + 1 : Nat) : Int) - 1 = (d : Int) by omega, u64_in (by omega) (by omega)]
    have ht : l.take i ++ [l[i]] = l.take (i + 1) := by rw [List.take_add_one]; simp [hil]
    rw [ht, ih k (i + 1) (by omega) (by omega) (by omega)]
    congr 1
    omega
end Go.Proofs.Ytefiadhmcdfdoaa.PD
