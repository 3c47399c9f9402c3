-- few entries of a node, and its own copy
import Derived.Test.YtlboglbgdjakmaaPAx14
import Derived.Test.YtlboglbgdjakmaaPAx15
import Derived.Test.YtlboglbgdjakmaaPAx16
import Derived.Test.YtlboglbgdjakmaaVarPlain
import Derived.Test.YtlboglbgdjakmaaTools
import Derived.Test.YtlboglbgdjakmaaCut01
namespace Go.Proofs.Ytlboglbgdjakmaa.PA
open Go.RowKit Go.Proofs.YtlboglbgdjakmaaW.PrintWords Go.Proofs.YtlboglbgdjakmaaW.PrintLast Go.Proofs.YtlboglbgdjakmaaW.PrintMore Go.Proofs.Ytlboglbgdjakmaa.VarPlain Go.Proofs.Ytlboglbgdjakmaa.Tools
/-- A text cut. -/
def cutT (n : Nat) (s : ByteArray) : ByteArray := mkS ((lst s).take n)
theorem tx_get (l : List ByteArray) (i : Nat) (h : i < l.length) : rdOf ByteArray.empty l (i : Int) = l[i] := by
  unfold rdOf; rw [Int.toNat_natCast, List.getD_eq_getElem?_getD, List.getElem?_eq_getElem h]; rfl
theorem rd_get (l : List Int) (i : Nat) (h : i < l.length) : rd l (i : Int) = l[i] := by
  unfold rd; rw [Int.toNat_natCast, List.getD_eq_getElem?_getD, List.getElem?_eq_getElem h]; rfl
theorem few_l2 (a b : Int) (k1 k2 : List ByteArray) (P : List Int) (A B : List ByteArray) (d : Nat) : ∀ (k i : Nat) (acc : List Int), min P.length 30 - i = d → acc.length ≤ i → i ≤ 30 → d < k →
    dowserlaw09_few.l2 k (i : Int) a k1 k2 P b A B acc = some (b, A, B, acc ++ ((P.take 30).drop i)) := by
  induction d with
  | zero =>
    intro k i acc hd ha hi hk
    obtain ⟨k, rfl⟩ : ∃ m, k = m + 1 := ⟨k - 1, by omega⟩
    have hn : (P.take 30).drop i = [] := List.drop_eq_nil_of_le (by rw [List.length_take]; omega)
    rw [hn, List.append_nil]
    simp only [dowserlaw09_few.l2]
    by_cases h1 : (i : Int) < (P.length : Int)
    · rw [if_pos h1, if_neg (by omega)]
    · rw [if_neg h1]
  | succ d ih =>
    intro k i acc hd ha hi hk
    obtain ⟨k, rfl⟩ : ∃ m, k = m + 1 := ⟨k - 1, by omega⟩
    have h1 : i < P.length := by omega
    simp only [dowserlaw09_few.l2]
    rw [if_pos (by omega), if_pos (by omega), if_pos (by omega), if_pos (by omega), rd_get P i h1, w_succ (by omega), ih k (i + 1) _ (by omega) (by rw [List.length_append, List.length_singleton]; omega) (by omega) (by omega)]
    have h2 : (P.take 30).drop i = P[i] :: (P.take 30).drop (i + 1) := by
      rw [List.drop_eq_getElem_cons (by rw [List.length_take]; omega), List.getElem_take]
    rw [h2, List.append_assoc, List.singleton_append]
theorem few_l1 (a b : Int) (k1 : List ByteArray) (V : List ByteArray) (P : List Int) (A : List ByteArray) (d : Nat) : ∀ (k i : Nat) (acc : List ByteArray), min V.length 30 - i = d → acc.length ≤ i → i ≤ 30 → d + 40 < k →
    dowserlaw09_few.l1 k (i : Int) a k1 V P b A acc = some (b, A, acc ++ ((V.take 30).map (cutT 34)).drop i, P.take 30) := by
  induction d with
  | zero =>
    intro k i acc hd ha hi hk
    obtain ⟨k, rfl⟩ : ∃ m, k = m + 2 := ⟨k - 2, by omega⟩
    have hn : ((V.take 30).map (cutT 34)).drop i = [] := List.drop_eq_nil_of_le (by rw [List.length_map, List.length_take]; omega)
    have h3 : dowserlaw09_few.j3 (k + 1) a k1 V P b A acc = some (b, A, acc, P.take 30) := by
      simp only [dowserlaw09_few.j3]
      have := few_l2 a b k1 V P A acc (min P.length 30 - 0) k 0 [] rfl (by simp) (by omega) (by omega)
      rw [List.drop_zero, List.nil_append] at this
      exact this
    rw [hn, List.append_nil]
    simp only [dowserlaw09_few.l1]
    by_cases h1 : (i : Int) < (V.length : Int)
    · rw [if_pos h1, if_neg (by omega), h3]
    · rw [if_neg h1, h3]
  | succ d ih =>
    intro k i acc hd ha hi hk
    obtain ⟨k, rfl⟩ : ∃ m, k = m + 1 := ⟨k - 1, by omega⟩
    have h1 : i < V.length := by omega
    simp only [dowserlaw09_few.l1]
    rw [if_pos (by omega), if_pos (by omega), if_pos (by omega), tx_get V i h1, show (34 : Int) = ((34 : Nat) : Int) from rfl, cut_is, Option.bind_some, if_pos (by omega), w_succ (by omega),
      ih k (i + 1) _ (by omega) (by rw [List.length_append, List.length_singleton]; omega) (by omega) (by omega)]
    have h2 : ((V.take 30).map (cutT 34)).drop i = cutT 34 V[i] :: ((V.take 30).map (cutT 34)).drop (i + 1) := by
      rw [List.drop_eq_getElem_cons (by rw [List.length_map, List.length_take]; omega), List.getElem_map, List.getElem_take]
    rw [h2, List.append_assoc, List.singleton_append]; rfl
theorem few_l0 (a b : Int) (K V : List ByteArray) (P : List Int) (d : Nat) : ∀ (k i : Nat) (acc : List ByteArray), min K.length 30 - i = d → acc.length ≤ i → i ≤ 30 → d + 80 < k →
    dowserlaw09_few.l0 k (i : Int) a K V P b acc = some (b, acc ++ ((K.take 30).map (cutT 18)).drop i, (V.take 30).map (cutT 34), P.take 30) := by
  induction d with
  | zero =>
    intro k i acc hd ha hi hk
    obtain ⟨k, rfl⟩ : ∃ m, k = m + 2 := ⟨k - 2, by omega⟩
    have hn : ((K.take 30).map (cutT 18)).drop i = [] := List.drop_eq_nil_of_le (by rw [List.length_map, List.length_take]; omega)
    have h3 : dowserlaw09_few.j1 (k + 1) a K V P b acc = some (b, acc, (V.take 30).map (cutT 34), P.take 30) := by
      simp only [dowserlaw09_few.j1]
      have := few_l1 a b K V P acc (min V.length 30 - 0) k 0 [] rfl (by simp) (by omega) (by omega)
      rw [List.drop_zero, List.nil_append] at this
      exact this
    rw [hn, List.append_nil]
    simp only [dowserlaw09_few.l0]
    by_cases h1 : (i : Int) < (K.length : Int)
    · rw [if_pos h1, if_neg (by omega), h3]
    · rw [if_neg h1, h3]
  | succ d ih =>
    intro k i acc hd ha hi hk
    obtain ⟨k, rfl⟩ : ∃ m, k = m + 1 := ⟨k - 1, by omega⟩
    have h1 : i < K.length := by omega
    simp only [dowserlaw09_few.l0]
    rw [if_pos (by omega), if_pos (by omega), if_pos (by omega), tx_get K i h1, show (18 : Int) = ((18 : Nat) : Int) from rfl, cut_is, Option.bind_some, if_pos (by omega), w_succ (by omega),
      ih k (i + 1) _ (by omega) (by rw [List.length_append, List.length_singleton]; omega) (by omega) (by omega)]
    have h2 : ((K.take 30).map (cutT 18)).drop i = cutT 18 K[i] :: ((K.take 30).map (cutT 18)).drop (i + 1) := by
      rw [List.drop_eq_getElem_cons (by rw [List.length_map, List.length_take]; omega), List.getElem_map, List.getElem_take]
    rw [h2, List.append_assoc, List.singleton_append]; rfl
theorem few_is (k : Nat) (a : Int) (K V : List ByteArray) (P : List Int) (hk : 200 < k) :
    dowserlaw09_few.f k a K V P = some (a, (K.take 30).map (cutT 18), (V.take 30).map (cutT 34), P.take 30) := by
  unfold dowserlaw09_few.f
  have := few_l0 a a K V P (min K.length 30 - 0) k 0 [] rfl (by simp) (by omega) (by omega)
  rw [List.drop_zero, List.nil_append] at this
  exact this
theorem own09_is (a : Int) (K V : List ByteArray) (P : List Int) (hK : K.length ≤ 1000) (hV : V.length ≤ 1000) (hP : P.length ≤ 1000) : dowserlaw09_own.f a K V P = some (a, K, V, P) := by
  unfold dowserlaw09_own.f
  rw [Option.bind_some, if_pos (by rw [List.length_nil]; omega), Option.bind_some, if_pos (by rw [List.length_nil]; omega), Option.bind_some, if_pos (by rw [List.length_nil]; omega)]
  rfl
end Go.Proofs.Ytlboglbgdjakmaa.PA
