/- The bytes of pairs: the program's and the document's are the same. Conditions: at most a thousand pairs. -/
import Derived.Test.YtefiadhmcdfdoaaPCx10
import Derived.Test.YtefiadhmcdfdoaaPCx11
import Derived.Test.YtefiadhmcdfdoaaPairRise
import Derived.Test.YtefiadhmcdfdoaaVarRefNum
namespace Go.Proofs.Ytefiadhmcdfdoaa.PC
open Go.RowKit Go.Proofs.YtefiadhmcdfdoaaW.PrintWords Go.Proofs.YtefiadhmcdfdoaaW.PrintLast Go.Proofs.YtefiadhmcdfdoaaW.PrintMore Go.Proofs.Ytefiadhmcdfdoaa.VarPlain Go.Proofs.Ytefiadhmcdfdoaa.SetPlain
set_option linter.unusedVariables false
def encP : List P2 → List UInt8
  | [] => []
  | p :: l => enc p.f0.toNat ++ (enc p.f1.toNat ++ encP l)
def encPAll (l : List P2) : List UInt8 := enc l.length ++ encP l
theorem num2_is {p : P2} (h : num2 p = true) : (p.f0 = (p.f0.toNat : Int) ∧ p.f0.toNat ≤ 2147483647) ∧ (p.f1 = (p.f1.toNat : Int) ∧ p.f1.toNat ≤ 2147483647) := by
  unfold num2 at h
  simp only [Bool.and_eq_true, decide_eq_true_eq] at h
  omega
theorem encP_len : ∀ (l : List P2), (∀ p ∈ l, num2 p = true) → (encP l).length ≤ 20 * l.length
  | [], _ => by simp [encP]
  | p :: l, h => by
    have ih := encP_len l (fun q hq => h q (List.mem_cons_of_mem _ hq))
    have hp := num2_is (h p (by simp))
    have h1 := enc_len_u64 (x := p.f0.toNat) (by omega)
    have h2 := enc_len_u64 (x := p.f1.toNat) (by omega)
    simp only [encP, List.length_append, List.length_cons]
    omega
theorem drop_at (l : List P2) (i : Nat) (h : i < l.length) : l.drop i = atP l i :: l.drop (i + 1) := by
  rw [atP_get l i h]; exact List.drop_eq_getElem_cons h
theorem num_u (k : Nat) (x : Int) (h : x = (x.toNat : Int)) (hx : x.toNat ≤ 2147483647) (hk : 10 < k) : varint_Num.f k (IntKind.u64.wrap x) = some (mkS (enc x.toNat)) := by
  rw [u64_in (by omega) (by omega), h, Int.toNat_natCast]
  exact num_is k x.toNat (by omega) hk
theorem pairs_loop (l : List P2) (hl : l.length ≤ 1000) (hn : ∀ p ∈ l, num2 p = true) (d : Nat) : ∀ (k i : Nat) (acc : List UInt8), l.length - i = d → i ≤ l.length → d + 11 < k → acc.length ≤ 20 + 20 * i →
    setcode_Pairs.l0 k l i acc = some (mkS (acc ++ encP (l.drop i))) := by
  induction d with
  | zero =>
    intro k i acc hd hi hk ha
    obtain ⟨k, rfl⟩ : ∃ m, k = m + 1 := ⟨k - 1, by omega⟩
    rw [setcode_Pairs.l0, if_neg (by omega), List.drop_of_length_le (by omega)]
    unfold encP mkS; rw [List.append_nil]
  | succ d ih =>
    intro k i acc hd hi hk ha
    obtain ⟨k, rfl⟩ : ∃ m, k = m + 1 := ⟨k - 1, by omega⟩
    have hil : i < l.length := by omega
    have hp := num2_is (hn (atP l i) (by rw [atP_get l i hil]; exact List.getElem_mem hil))
    have h1 := enc_len_u64 (x := (atP l i).f0.toNat) (by omega)
    have h2 := enc_len_u64 (x := (atP l i).f1.toNat) (by omega)
    have g0 : varint_Num.f k (IntKind.u64.wrap (rd_T76 l (i : Int)).f0) = some (mkS (enc (atP l i).f0.toNat)) := num_u k (atP l i).f0 hp.1.1 hp.1.2 (by omega)
    have g1 : varint_Num.f k (IntKind.u64.wrap (rd_T76 l (i : Int)).f1) = some (mkS (enc (atP l i).f1.toNat)) := num_u k (atP l i).f1 hp.2.1 hp.2.2 (by omega)
    rw [setcode_Pairs.l0, if_pos hil, g0]
    simp only [Option.bind_some]
    rw [g1]
    simp only [Option.bind_some]
    rw [append_mk, size_mk, List.length_append, if_pos (by omega)]
    have := ih k (i + 1) (acc ++ (enc (atP l i).f0.toNat ++ enc (atP l i).f1.toNat)) (by omega) (by omega) (by omega) (by simp only [List.length_append]; omega)
    rw [drop_at l i hil, encP]
    refine this.trans ?_
    rw [List.append_assoc, List.append_assoc]
theorem pairs_b (k : Nat) (l : List P2) (hl : l.length ≤ 1000) (hk : l.length + 20 < k) (hn : ∀ p ∈ l, num2 p = true) : setcode_Pairs.b k l = some (mkS (encPAll l), 0) := by
  unfold setcode_Pairs.b
  have h1 := enc_len_u64 (x := l.length) (by omega)
  rw [if_pos (by omega), num_is k l.length (by omega) (by omega)]
  simp only [Option.bind_some]
  rw [if_pos (by rw [size_mk]; omega)]
  have := pairs_loop l hl hn l.length k 0 (enc l.length) (by omega) (by omega) (by omega) (by omega)
  rw [List.drop_zero] at this
  have e : setcode_Pairs.l0 k l 0 (mkS (enc l.length)).data.toList = some (mkS (enc l.length ++ encP l)) := this
  rw [e]; rfl
theorem pairs_is (k : Nat) (l : List P2) (hl : l.length ≤ 1000) (hk : l.length + 20 < k) : setcode_Pairs.f k l = some (if ris2 l = true then (mkS (encPAll l), 0) else (⟨#[]⟩, 1)) := by
  unfold setcode_Pairs.f
  rw [rise_is k l hl (by omega)]
  simp only [Option.bind_some]
  cases h : ris2 l with
  | false => simp
  | true =>
    rw [if_pos rfl, if_pos rfl]
    exact pairs_b k l hl hk (ris2_num h)
theorem refnum_u (k : Nat) (x : Int) (h : x = (x.toNat : Int)) (hx : x.toNat ≤ 2147483647) (hk : 10 < k) : dowserref01_Num.f k (IntKind.u64.wrap x) = some (mkS (enc x.toNat)) := by
  rw [u64_in (by omega) (by omega), h, Int.toNat_natCast]
  exact refnum_is k x.toNat (by omega) hk
theorem refpairs_loop (l : List P2) (hl : l.length ≤ 1000) (hn : ∀ p ∈ l, num2 p = true) (d : Nat) : ∀ (k i : Nat) (acc : List UInt8), l.length - i = d → i ≤ l.length → d + 11 < k → acc.length ≤ 20 + 20 * i →
    dowserref13_Pairs.l0 k (mkS acc) l (l.length : Int) (i : Int) = some (mkS (acc ++ encP (l.drop i))) := by
  induction d with
  | zero =>
    intro k i acc hd hi hk ha
    obtain ⟨k, rfl⟩ : ∃ m, k = m + 1 := ⟨k - 1, by omega⟩
    rw [dowserref13_Pairs.l0, if_neg (by omega), List.drop_of_length_le (by omega)]
    unfold encP; rw [List.append_nil]
  | succ d ih =>
    intro k i acc hd hi hk ha
    obtain ⟨k, rfl⟩ : ∃ m, k = m + 1 := ⟨k - 1, by omega⟩
    have hil : i < l.length := by omega
    have hp := num2_is (hn (atP l i) (by rw [atP_get l i hil]; exact List.getElem_mem hil))
    have h1 := enc_len_u64 (x := (atP l i).f0.toNat) (by omega)
    have h2 := enc_len_u64 (x := (atP l i).f1.toNat) (by omega)
    have g0 : dowserref01_Num.f k (IntKind.u64.wrap (rd_T76 l (i : Int)).f0) = some (mkS (enc (atP l i).f0.toNat)) := refnum_u k (atP l i).f0 hp.1.1 hp.1.2 (by omega)
    have g1 : dowserref01_Num.f k (IntKind.u64.wrap (rd_T76 l (i : Int)).f1) = some (mkS (enc (atP l i).f1.toNat)) := refnum_u k (atP l i).f1 hp.2.1 hp.2.2 (by omega)
    rw [dowserref13_Pairs.l0, if_pos (by omega), if_pos (by omega), if_pos (by omega), g0]
    simp only [Option.bind_some]
    rw [g1]
    simp only [Option.bind_some]
    rw [if_pos (by rw [size_mk, size_mk]; omega), append_mk, if_pos (by rw [size_mk, size_mk, List.length_append]; omega), append_mk, w64m i (by omega)]
    have := ih k (i + 1) (acc ++ (enc (atP l i).f0.toNat ++ enc (atP l i).f1.toNat)) (by omega) (by omega) (by omega) (by simp only [List.length_append]; omega)
    rw [drop_at l i hil, encP]
    refine this.trans ?_
    rw [List.append_assoc, List.append_assoc]
theorem refpairs_is (k : Nat) (l : List P2) (hl : l.length ≤ 1000) (hk : l.length + 20 < k) (hn : ∀ p ∈ l, num2 p = true) : dowserref13_Pairs.f k l = some (mkS (encPAll l)) := by
  unfold dowserref13_Pairs.f
  have h1 := enc_len_u64 (x := l.length) (by omega)
  rw [if_pos (by omega), refnum_is k l.length (by omega) (by omega)]
  simp only [Option.bind_some]
  have := refpairs_loop l hl hn l.length k 0 (enc l.length) (by omega) (by omega) (by omega) (by omega)
  rw [List.drop_zero] at this
  exact this
end Go.Proofs.Ytefiadhmcdfdoaa.PC
