/- What any bytes are read as, as a set: the program's and the document's reading are one, and what is read has just these bytes. Conditions: at most 900 bytes. -/
import Derived.Test.YtefiadhmcdfdoaaPCx4
import Derived.Test.YtefiadhmcdfdoaaPCx6
import Derived.Test.YtefiadhmcdfdoaaPairDec
import Derived.Test.YtefiadhmcdfdoaaSetEnc
namespace Go.Proofs.Ytefiadhmcdfdoaa.PC
open Go.RowKit Go.Proofs.YtefiadhmcdfdoaaW.PrintWords Go.Proofs.YtefiadhmcdfdoaaW.PrintLast Go.Proofs.YtefiadhmcdfdoaaW.PrintMore Go.Proofs.Ytefiadhmcdfdoaa.VarPlain Go.Proofs.Ytefiadhmcdfdoaa.SetPlain
set_option linter.unusedVariables false
/-- n numbers more, behind a last one. -/
def parS : Nat → Int → List UInt8 → List Int × List UInt8 × Int
  | 0, _, l => ([], l, 0)
  | n + 1, last, l => if (rd1 l).2.2 ≠ 0 then ([], [], (rd1 l).2.2) else if last + 1 + ((rd1 l).1 : Int) > 2147483647 then ([], [], 1) else
    ((last + 1 + ((rd1 l).1 : Int)) :: (parS n (last + 1 + ((rd1 l).1 : Int)) (rd1 l).2.1).1, (parS n (last + 1 + ((rd1 l).1 : Int)) (rd1 l).2.1).2.1, (parS n (last + 1 + ((rd1 l).1 : Int)) (rd1 l).2.1).2.2)
def finS (acc : List Int) (t : List Int × List UInt8 × Int) : List Int × Int :=
  if t.2.2 ≠ 0 then ([], t.2.2) else if t.2.1 ≠ [] then ([], 3) else (acc ++ t.1, 0)
def fromS (l : List UInt8) : List Int × Int := if (rd1 l).2.2 ≠ 0 then ([], (rd1 l).2.2) else finS [] (parS (rd1 l).1 (-1) (rd1 l).2.1)
theorem decS_loop (l : List UInt8) (n : Nat) (last : Int) (acc : List Int) (k : Nat) (hn : n ≤ 2147483647) (h0 : -1 ≤ last) (h1 : last ≤ 2147483647) (hl : acc.length + l.length ≤ 990) (hk : 10 * l.length + 20 < k) :
    setcode_Decode.l0 k acc last (n : Int) (mkS l) 0 = some (finS acc (parS n last l)) := by
  obtain ⟨k, rfl⟩ : ∃ m, k = m + 2 := ⟨k - 2, by omega⟩
  match n with
  | 0 =>
    rw [setcode_Decode.l0, if_neg (by omega), end_is, lst_mk]
    simp only [Option.bind_some]
    unfold finS parS
    by_cases h : l = []
    · rw [if_pos h]; simp [h]
    · rw [if_neg h]; simp [h]
  | n + 1 =>
    have hin := innum_is (k + 1) (mkS l) 0 2147483647 (by rw [size_mk]; omega) (by rw [size_mk]; omega)
    rw [lst_mk] at hin
    have hin2 : varint_In_Num.f (k + 1) (mkS l) 0 2147483647 = some (((rd1 l).1 : Int), mkS (rd1 l).2.1, (rd1 l).2.2) := hin
    have ha := rd1_lt l
    rw [setcode_Decode.l0, if_pos (by omega), hin2]
    simp only [Option.bind_some, err_is]
    rw [w64 (a := last + 1) (by omega) (by omega), w64 (a := ((rd1 l).1 : Int)) (by omega) (by omega), w64 (a := last + 1 + ((rd1 l).1 : Int)) (by omega) (by omega)]
    by_cases e1 : (rd1 l).2.2 = 0
    · have hl1 := rd1_less l e1
      rw [if_pos e1, e1]
      by_cases e2 : last + 1 + ((rd1 l).1 : Int) > 2147483647
      · rw [decide_eq_true e2, setcode_Decode.j1, if_pos rfl, fail_is]
        simp only [Option.bind_some, err_is]
        have hf : rFail (lst (mkS (rd1 l).2.1)) 0 1 = ([], 1) := by unfold rFail; simp
        rw [hf]
        rw [if_neg (by decide), end_is, lst_mk, if_pos rfl]
        simp only [Option.bind_some]
        have hp : parS (n + 1) last l = ([], [], 1) := by rw [parS, if_neg (by rw [e1]; simp), if_pos e2]
        rw [hp]; rfl
      · rw [decide_eq_false e2, setcode_Decode.j1, if_neg (by simp)]
        simp only [Option.bind_some, err_is, if_true]
        rw [if_pos (by omega), show ((n + 1 : Nat) : Int) - 1 = (n : Int) by omega, u64_in (by omega) (by omega)]
        rw [decS_loop (rd1 l).2.1 n (last + 1 + ((rd1 l).1 : Int)) (acc ++ [last + 1 + ((rd1 l).1 : Int)]) k (by omega) (by omega) (by omega) (by rw [List.length_append, List.length_singleton]; omega) (by omega)]
        have hp : parS (n + 1) last l = ((last + 1 + ((rd1 l).1 : Int)) :: (parS n (last + 1 + ((rd1 l).1 : Int)) (rd1 l).2.1).1, (parS n (last + 1 + ((rd1 l).1 : Int)) (rd1 l).2.1).2.1, (parS n (last + 1 + ((rd1 l).1 : Int)) (rd1 l).2.1).2.2) := by
          rw [parS, if_neg (by rw [e1]; simp), if_neg e2]
        rw [hp]
        unfold finS
        simp only [List.append_assoc, List.singleton_append]
    · rw [if_neg e1, setcode_Decode.j1, if_neg (by simp)]
      simp only [Option.bind_some, err_is]
      rw [if_neg e1, end_is, lst_mk, rd1_nil l e1, if_pos rfl]
      simp only [Option.bind_some]
      rw [if_neg e1]
      have hp : parS (n + 1) last l = ([], [], (rd1 l).2.2) := by rw [parS, if_pos e1]
      rw [hp]; unfold finS; rw [if_pos e1]
termination_by l.length
decreasing_by exact hl1
theorem decS_is (k : Nat) (l : List UInt8) (hl : l.length ≤ 900) (hk : 10 * l.length + 40 < k) : setcode_Decode.f k (mkS l) = some (fromS l) := by
  unfold setcode_Decode.f fromS
  have hin := innum_is k (mkS l) 0 2147483647 (by rw [size_mk]; omega) (by rw [size_mk]; omega)
  rw [lst_mk] at hin
  have hin2 : varint_In_Num.f k (mkS l) 0 2147483647 = some (((rd1 l).1 : Int), mkS (rd1 l).2.1, (rd1 l).2.2) := hin
  simp only [varint_Of.f, Option.bind_some]
  rw [hin2]
  simp only [Option.bind_some]
  by_cases h1 : (rd1 l).2.2 = 0
  · have hl1 := rd1_less l h1
    rw [if_neg (by rw [h1]; simp), h1]
    exact decS_loop _ _ _ [] k (rd1_lt l) (by omega) (by omega) (by simp; omega) (by omega)
  · have hz : (rd1 l).1 = 0 := by
      rcases rd1_cases l with ⟨_, _, e, _⟩ | ⟨_, _, e⟩ | ⟨_, e⟩
      · rw [e] at h1; exact absurd rfl h1
      · rw [e]
      · rw [e]
    obtain ⟨k, rfl⟩ : ∃ m, k = m + 1 := ⟨k - 1, by omega⟩
    rw [if_pos h1, rd1_nil l h1, hz, setcode_Decode.l0, if_neg (by omega), end_is, lst_mk, if_pos rfl]
    simp only [Option.bind_some]
    rw [if_neg h1]
/-- Where the last one stands. -/
def lastOf (out : List Int) : Int := if out = [] then -1 else rd out ((out.length : Int) - 1)
theorem lastOf_app (out : List Int) (x : Int) : lastOf (out ++ [x]) = x := by
  unfold lastOf
  rw [if_neg (by simp), List.length_append, List.length_singleton]
  have : ((out.length + 1 : Nat) : Int) - 1 = (out.length : Int) := by omega
  rw [this]; unfold rd; simp
theorem refS_j4 (k : Nat) (l : List UInt8) (n : Int) (out : List Int) (hlen : out.length ≤ 1000) (hlast : -1 ≤ lastOf out ∧ lastOf out ≤ 2147483647) (x c : Nat) (hx : x ≤ 2147483647) (hc : c ≤ l.length) :
    dowserref13_Decode.j4 (k + 1) (mkS l) n out (out.length : Int) (x : Int) (c : Int) 0 = if lastOf out + 1 + (x : Int) > 2147483647 then some ([], 1) else dowserref13_Decode.l0 k (mkS (l.drop c)) n (out ++ [lastOf out + 1 + (x : Int)]) ((out.length + 1 : Nat) : Int) := by
  rw [dowserref13_Decode.j4, if_pos rfl, w64 (a := (x : Int)) (by omega) (by omega)]
  have hu : IntKind.u64.wrap ((out.length : Int) + 1) = ((out.length + 1 : Nat) : Int) := by rw [u64_in (by omega) (by omega)]; omega
  by_cases h : out = []
  · have hl0 : lastOf out = -1 := by unfold lastOf; rw [if_pos h]
    subst h
    rw [if_neg (by simp), hl0]
    by_cases e : (x : Int) > 2147483647
    · omega
    · rw [if_neg e, if_pos (by simp), if_pos (by omega), if_pos (by rw [size_mk]; omega), if_neg (by omega), hu, Int.toNat_natCast, extract_from, lst_mk]
      rw [show (-1 : Int) + 1 + (x : Int) = (x : Int) by omega]
  · have hpos : 0 < out.length := List.length_pos_iff.2 h
    have hl0 : lastOf out = rd out ((out.length : Int) - 1) := by unfold lastOf; rw [if_neg h]
    rw [if_pos (by omega), w64 (a := (out.length : Int) - 1) (by omega) (by omega), if_pos (by omega), if_pos (by omega), ← hl0, w64 (a := lastOf out + 1) (by omega) (by omega), w64 (a := (x : Int) + (lastOf out + 1)) (by omega) (by omega), show (x : Int) + (lastOf out + 1) = lastOf out + 1 + (x : Int) by omega]
    by_cases e : lastOf out + 1 + (x : Int) > 2147483647
    · rw [if_pos e, if_pos e]
    · rw [if_neg e, if_neg e, if_pos (by omega), if_pos (by omega), if_pos (by rw [size_mk]; omega), hu, Int.toNat_natCast, extract_from, lst_mk]
theorem refS_loop (l : List UInt8) (m : Nat) (out : List Int) (k : Nat) (hm : m ≤ 2147483647) (hlast : -1 ≤ lastOf out ∧ lastOf out ≤ 2147483647) (hl : out.length + l.length ≤ 990) (hk : 10 * l.length + 20 < k) :
    dowserref13_Decode.l0 k (mkS l) ((out.length + m : Nat) : Int) out (out.length : Int) = some (finS out (parS m (lastOf out) l)) := by
  obtain ⟨k, rfl⟩ : ∃ m, k = m + 3 := ⟨k - 3, by omega⟩
  match m with
  | 0 =>
    rw [dowserref13_Decode.l0, if_neg (by omega), toList_lst, lst_mk]
    unfold finS parS
    by_cases h : l = []
    · rw [if_pos h]; simp [h]
    · rw [if_neg h]; simp [h]
  | m + 1 =>
    have hd := head_is (k + 2) (mkS l) (by rw [size_mk]; omega) (by rw [size_mk]; omega)
    rw [lst_mk] at hd
    rw [dowserref13_Decode.l0, if_pos (by omega), hd]
    simp only [Option.bind_some]
    rcases rd1_cases l with ⟨h1, h2, e, h3, h4⟩ | ⟨h1, h2, e⟩ | ⟨h1, e⟩
    · have ex : ¬ ((scanL 0 0 l).1 : Int) > 2147483647 := by omega
      rw [h1, if_pos (by rfl), decide_eq_false ex, dowserref13_Decode.j3, if_neg (by simp)]
      rw [show ((0 : Nat) : Int) = 0 from rfl, refS_j4 k l _ out (by omega) hlast _ _ h2 h4]
      have e1 : (rd1 l).2.2 = 0 := by rw [e]
      by_cases e2 : lastOf out + 1 + ((scanL 0 0 l).1 : Int) > 2147483647
      · rw [if_pos e2]
        have hp : parS (m + 1) (lastOf out) l = ([], [], 1) := by rw [parS, if_neg (by rw [e1]; simp), if_pos (by rw [e]; exact e2)]
        rw [hp]; rfl
      · rw [if_neg e2]
        have ih := refS_loop (l.drop (scanL 0 0 l).2.1) m (out ++ [lastOf out + 1 + ((scanL 0 0 l).1 : Int)]) k (by omega) (by rw [lastOf_app]; omega) (by rw [List.length_append, List.length_singleton]; omega) (by omega)
        rw [lastOf_app, List.length_append, List.length_singleton, show out.length + 1 + m = out.length + (m + 1) by omega] at ih
        rw [ih]
        have hp : parS (m + 1) (lastOf out) l = ((lastOf out + 1 + ((rd1 l).1 : Int)) :: (parS m (lastOf out + 1 + ((rd1 l).1 : Int)) (rd1 l).2.1).1, (parS m (lastOf out + 1 + ((rd1 l).1 : Int)) (rd1 l).2.1).2.1, (parS m (lastOf out + 1 + ((rd1 l).1 : Int)) (rd1 l).2.1).2.2) := by
          rw [parS, if_neg (by rw [e1]; simp), if_neg (by rw [e]; exact e2)]
        rw [hp, e]
        unfold finS
        simp only [List.append_assoc, List.singleton_append]
    · have ex : ((scanL 0 0 l).1 : Int) > 2147483647 := by omega
      rw [h1, if_pos (by rfl), decide_eq_true ex, dowserref13_Decode.j3, if_pos rfl, dowserref13_Decode.j4, if_neg (by decide)]
      have hp : parS (m + 1) (lastOf out) l = ([], [], 4) := by rw [parS, if_pos (by rw [e]; decide), e]
      rw [hp]; rfl
    · have hne : ((scanL 0 0 l).2.2 : Int) ≠ 0 := by omega
      rw [if_neg hne, dowserref13_Decode.j3, if_neg (by simp), dowserref13_Decode.j4, if_neg hne]
      have hp : parS (m + 1) (lastOf out) l = ([], [], ((scanL 0 0 l).2.2 : Int)) := by rw [parS, if_pos (by rw [e]; exact hne), e]
      rw [hp]; unfold finS; rw [if_pos hne]
termination_by l.length
decreasing_by exact h3
theorem refS_is (k : Nat) (l : List UInt8) (hl : l.length ≤ 900) (hk : 10 * l.length + 40 < k) : dowserref13_Decode.f k (mkS l) = some (fromS l) := by
  unfold dowserref13_Decode.f fromS
  obtain ⟨k, rfl⟩ : ∃ m, k = m + 2 := ⟨k - 2, by omega⟩
  have hd := head_is (k + 2) (mkS l) (by rw [size_mk]; omega) (by rw [size_mk]; omega)
  rw [lst_mk] at hd
  rw [hd]
  simp only [Option.bind_some]
  rcases rd1_cases l with ⟨h1, h2, e, h3, h4⟩ | ⟨h1, h2, e⟩ | ⟨h1, e⟩
  · have ex : ¬ ((scanL 0 0 l).1 : Int) > 2147483647 := by omega
    rw [h1, if_pos (by rfl), decide_eq_false ex, dowserref13_Decode.j0, if_neg (by simp), dowserref13_Decode.j1, if_pos (by rfl), if_pos (by omega), if_pos (by rw [size_mk]; omega), Int.toNat_natCast, extract_from, lst_mk, e]
    have := refS_loop (l.drop (scanL 0 0 l).2.1) (scanL 0 0 l).1 [] k h2 (by unfold lastOf; simp) (by simp; omega) (by omega)
    rw [List.length_nil, Nat.zero_add] at this
    refine this.trans ?_
    simp [lastOf]
  · have ex : ((scanL 0 0 l).1 : Int) > 2147483647 := by omega
    rw [h1, if_pos (by rfl), decide_eq_true ex, dowserref13_Decode.j0, if_pos rfl, dowserref13_Decode.j1, if_neg (by decide), e]
    rfl
  · have hne : ((scanL 0 0 l).2.2 : Int) ≠ 0 := by omega
    rw [if_neg hne, dowserref13_Decode.j0, if_neg (by simp), dowserref13_Decode.j1, if_neg hne, e]
    exact congrArg some (if_pos hne).symm
theorem parS_back : ∀ (n : Nat) (last : Int) (l : List UInt8), -1 ≤ last → (parS n last l).2.2 = 0 → (parS n last l).1.length = n ∧ Rise last (parS n last l).1 ∧ l = encGo last (parS n last l).1 ++ (parS n last l).2.1
  | 0, last, l, _, _ => ⟨rfl, trivial, by simp [parS, encGo]⟩
  | n + 1, last, l, h0, h => by
    by_cases e1 : (rd1 l).2.2 = 0
    · by_cases e2 : last + 1 + ((rd1 l).1 : Int) > 2147483647
      · rw [parS, if_neg (by rw [e1]; simp), if_pos e2] at h
        exact absurd h (by decide)
      · have hp : parS (n + 1) last l = ((last + 1 + ((rd1 l).1 : Int)) :: (parS n (last + 1 + ((rd1 l).1 : Int)) (rd1 l).2.1).1, (parS n (last + 1 + ((rd1 l).1 : Int)) (rd1 l).2.1).2.1, (parS n (last + 1 + ((rd1 l).1 : Int)) (rd1 l).2.1).2.2) := by
          rw [parS, if_neg (by rw [e1]; simp), if_neg e2]
        rw [hp] at h ⊢
        have ih := parS_back n _ _ (by omega) h
        refine ⟨by rw [List.length_cons, ih.1], ⟨by omega, by omega, ih.2.1⟩, ?_⟩
        show l = (enc (last + 1 + ((rd1 l).1 : Int) - last - 1).toNat ++ encGo _ _) ++ _
        rw [show (last + 1 + ((rd1 l).1 : Int) - last - 1).toNat = (rd1 l).1 by omega, List.append_assoc, ← ih.2.2]
        exact rd1_enc l e1
    · rw [parS, if_pos e1] at h
      exact absurd h e1
theorem fromS_back (l : List UInt8) (h : (fromS l).2 = 0) : Rise (-1) (fromS l).1 ∧ l = encAll (fromS l).1 := by
  unfold fromS at h ⊢
  by_cases h1 : (rd1 l).2.2 = 0
  · rw [if_neg (by rw [h1]; simp)] at h ⊢
    unfold finS at h ⊢
    by_cases h2 : (parS (rd1 l).1 (-1) (rd1 l).2.1).2.2 = 0
    · have hb := parS_back _ (-1) _ (by omega) h2
      rw [if_neg (by rw [h2]; simp)] at h ⊢
      by_cases h3 : (parS (rd1 l).1 (-1) (rd1 l).2.1).2.1 = []
      · rw [if_neg (by rw [h3]; simp)]
        rw [List.nil_append]
        rw [h3, List.append_nil] at hb
        refine ⟨hb.2.1, ?_⟩
        unfold encAll
        rw [hb.1, ← hb.2.2]; exact rd1_enc l h1
      · rw [if_pos h3] at h; exact absurd h (by decide)
    · rw [if_pos h2] at h; exact absurd h h2
  · rw [if_pos h1] at h; exact absurd h h1
theorem fromS_len (l : List UInt8) (h : (fromS l).2 = 0) : (fromS l).1.length ≤ l.length := by
  have hb := fromS_back l h
  have hg : ∀ (m : List Int) (last : Int), m.length ≤ (encGo last m).length := fun m => by
    induction m with
    | nil => intro _; simp
    | cons x m ih => intro last; have h1 := enc_len_pos (x - last - 1).toNat; have h2 := ih x; simp only [encGo, List.length_append, List.length_cons]; omega
  have h1 := hg (fromS l).1 (-1)
  have h2 : l.length = (encAll (fromS l).1).length := congrArg List.length hb.2
  unfold encAll at h2
  rw [List.length_append] at h2
  omega
end Go.Proofs.Ytefiadhmcdfdoaa.PC
