-- which nodes may be: the program's Check and the document's
import Derived.Test.YtlboglbgdjakmaaPAx17
import Derived.Test.YtlboglbgdjakmaaPAx4
import Derived.Test.YtlboglbgdjakmaaVarPlain
import Derived.Test.YtlboglbgdjakmaaTools
namespace Go.Proofs.Ytlboglbgdjakmaa.PA
open Go.RowKit Go.Proofs.YtlboglbgdjakmaaW.PrintWords Go.Proofs.YtlboglbgdjakmaaW.PrintLast Go.Proofs.YtlboglbgdjakmaaW.PrintMore Go.Proofs.Ytlboglbgdjakmaa.VarPlain Go.Proofs.Ytlboglbgdjakmaa.Tools
def less (l : List ByteArray) (j : Nat) : Bool := Op.bytesLess (tx l (j - 1)).toList (tx l j).toList
def Key (s : ByteArray) : Prop := s.toList ≠ [] ∧ (s.size : Int) ≤ 16
def Val (s : ByteArray) : Prop := (s.size : Int) ≤ 32
def Page (x : Int) : Prop := 0 ≤ x ∧ x ≤ 2147483647
def Rise (l : List ByteArray) (i : Nat) : Prop := ∀ j, i ≤ j → j < l.length → less l j = true
def Shape (kind : Int) (K V : List ByteArray) (P : List Int) : Prop :=
  kind = 1 ∧ V.length = K.length ∧ P.length = 0 ∨ kind = 2 ∧ P.length = K.length ∧ V.length = 0 ∧ 0 < K.length
def Good (kind : Int) (K V : List ByteArray) (P : List Int) : Prop :=
  Shape kind K V P ∧ (∀ j, j < K.length → Key (tx K j)) ∧ Rise K 1 ∧ (∀ j, j < V.length → Val (tx V j)) ∧ ∀ j, j < P.length → Page (rd P (j : Int))
theorem key_p (s : ByteArray) : node_all_key.p_ s = true ↔ Key s := by
  unfold node_all_key.p_ Key
  rw [Bool.and_eq_true, decide_eq_true_iff]
  simp
theorem val_p (s : ByteArray) : node_all_value.p_ s = true ↔ Val s := by unfold node_all_value.p_ Val; rw [decide_eq_true_iff]
theorem page_p (x : Int) : node_all_page.p_ x = true ↔ Page x := by unfold node_all_page.p_ Page; rw [Bool.and_eq_true, decide_eq_true_iff, decide_eq_true_iff]
theorem Rise_at (l : List ByteArray) (i : Nat) (hi : i < l.length) : Rise l i ↔ less l i = true ∧ Rise l (i + 1) := by
  refine ⟨fun h => ⟨h i (Nat.le_refl _) hi, fun j hj hl => h j (by omega) hl⟩, fun h j hj hl => ?_⟩
  by_cases e : j = i
  · rw [e]; exact h.1
  · exact h.2 j (by omega) hl
def fin (kind : Int) (x : Bool) (K V : List ByteArray) (P : List Int) : Option Int :=
  if kind = 1 then (if x = true then (if (V.length : Int) = (K.length : Int) then (if ((P.length : Int) = 0) then (some 0) else (some 1)) else (some 1)) else (some 1)) else (if kind = 2 then (if x = true then (if (P.length : Int) = (K.length : Int) then (if (V.length : Int) = 0 then (if ((K.length : Int) > 0) then (some 0) else (some 1)) else (some 1)) else (some 1)) else (some 1)) else (some 1))
open Classical in
theorem fin_is (kind : Int) (x : Bool) (K V : List ByteArray) (P : List Int) : fin kind x K V P = some (if x = true ∧ Shape kind K V P then 0 else 1) := by
  unfold fin Shape
  cases x <;> repeat' split
  all_goals first | rfl | (exfalso; omega) | (exfalso; simp_all; done) | (exfalso; simp_all; omega)
theorem own_loop (kind : Int) (K V : List ByteArray) (P : List Int) (hl : K.length < 2 ^ 62) (d : Nat) : ∀ (k i : Nat) (x : Bool), K.length - i = d → 1 ≤ i → d < k →
    node_Node_Check.l0 k x (i : Int) kind K V P = fin kind (x && pb (Rise K i)) K V P := by
  induction d with
  | zero =>
    intro k i x hd hi hk
    obtain ⟨k, rfl⟩ : ∃ m, k = m + 1 := ⟨k - 1, by omega⟩
    have h1 : ¬ (i : Int) < (K.length : Int) := by omega
    simp only [node_Node_Check.l0]
    rw [if_neg h1, pb_true (show Rise K i from fun j hj hl => by omega), Bool.and_true]; rfl
  | succ d ih =>
    intro k i x hd hi hk
    obtain ⟨k, rfl⟩ : ∃ m, k = m + 1 := ⟨k - 1, by omega⟩
    have h1 : (i : Int) < (K.length : Int) := by omega
    simp only [node_Node_Check.l0]
    have h2 : (0 : Int) ≤ ((i - 1 : Nat) : Int) := by omega
    have h3 : ((i - 1 : Nat) : Int) < (K.length : Int) := by omega
    have h4 : (0 : Int) ≤ (i : Int) := by omega
    rw [if_pos h1, w_pred hi (by omega), w_succ (by omega), if_pos h2, if_pos h3, if_pos h4]
    have hR := pb_congr (Rise_at K i (by omega))
    cases x with
    | true =>
      rw [if_pos rfl, ih k (i + 1) _ (by omega) (by omega) (by omega)]
      congr 1
      rw [Bool.true_and, hR]
      show (less K i && pb (Rise K (i + 1))) = _
      refine eq_pb ?_
      rw [Bool.and_eq_true, pb_iff]
    | false =>
      rw [if_neg (by simp), ih k (i + 1) _ (by omega) (by omega) (by omega)]
      rfl
theorem fin_false (kind : Int) (x : Bool) (h : x = false) (K V : List ByteArray) (P : List Int) : fin kind x K V P = some 1 := by
  classical
  rw [fin_is, if_neg (by rw [h]; simp)]
open Classical in
theorem check_is (k : Nat) (kind : Int) (K V : List ByteArray) (P : List Int) (hl : K.length < 2 ^ 62) (hk : K.length + 1 < k) :
    node_Node_Check.f k kind K V P = some (if Good kind K V P then 0 else 1) := by
  obtain ⟨k, rfl⟩ : ∃ m, k = m + 1 := ⟨k - 1, by omega⟩
  have go : ∀ x, node_Node_Check.j0 (k + 1) x kind K V P = fin kind (x && pb (Rise K 1)) K V P := fun x => by
    simp only [node_Node_Check.j0]
    exact own_loop kind K V P hl _ k 1 x rfl (Nat.le_refl _) (by omega)
  unfold node_Node_Check.f node_all_key.f node_all_value.f node_all_page.f
  simp only [Option.bind_some, go]
  rw [all_tx, all_tx, all_rd, fin_is, fin_is]
  simp only [key_p, val_p, page_p, Bool.false_and, Bool.false_eq_true, false_and, if_false, Bool.and_eq_true, pb_iff]
  by_cases h1 : ∀ j, j < K.length → Key (tx K j)
  · rw [if_pos h1]
    by_cases h2 : ∀ j, j < V.length → Val (tx V j)
    · rw [if_pos h2]
      congr 1
      have : ((((∀ j, j < P.length → Page (rd P (j : Int))) ∧ Rise K 1) ∧ Shape kind K V P) ↔ Good kind K V P) := ⟨fun h => ⟨h.2, h1, h.1.2, h2, h.1.1⟩, fun h => ⟨⟨h.2.2.2.2, h.2.2.1⟩, h.1⟩⟩
      simp only [this]
    · rw [if_neg h2, if_neg (fun h => h2 h.2.2.2.1)]
  · rw [if_neg h1, if_neg (fun h => h1 h.2.1)]
/-! The document's. -/
theorem ref_l2 (P : List Int) (hp : P.length < 2 ^ 62) (d : Nat) : ∀ (k i : Nat), P.length - i = d → d < k →
    dowserref09_Check.l2 k P (P.length : Int) (i : Int) = some (pb (∀ j, i ≤ j → j < P.length → Page (rd P (j : Int)))) := by
  induction d with
  | zero =>
    intro k i hd hk
    obtain ⟨k, rfl⟩ : ∃ m, k = m + 1 := ⟨k - 1, by omega⟩
    simp only [dowserref09_Check.l2]
    rw [if_neg (by omega), pb_true (fun j hj hl => by omega)]
  | succ d ih =>
    intro k i hd hk
    obtain ⟨k, rfl⟩ : ∃ m, k = m + 1 := ⟨k - 1, by omega⟩
    have h1 : (i : Int) < (P.length : Int) := by omega
    simp only [dowserref09_Check.l2]
    rw [if_pos h1, if_pos (Int.natCast_nonneg _), if_pos h1]
    by_cases c1 : rd P (i : Int) < 0
    · rw [if_pos c1, pb_false (fun h => by have := (h i (Nat.le_refl _) (by omega)).1; omega)]
    · by_cases c2 : rd P (i : Int) > 2147483647
      · rw [if_neg c1, if_pos c2, pb_false (fun h => by have := (h i (Nat.le_refl _) (by omega)).2; omega)]
      · rw [if_neg c1, if_neg c2, w_succ (by omega), ih k (i + 1) (by omega) (by omega)]
        congr 1
        refine pb_congr ⟨fun h j hj hl => ?_, fun h j hj hl => h j (by omega) hl⟩
        by_cases e : j = i
        · rw [e]; exact ⟨by omega, by omega⟩
        · exact h j (by omega) hl
theorem ref_l1 (kind : Int) (K V : List ByteArray) (P : List Int) (hp : P.length < 2 ^ 62) (hv : V.length < 2 ^ 62) (d : Nat) : ∀ (k i : Nat), V.length - i = d → d + P.length + 1 < k →
    dowserref09_Check.l1 k V (V.length : Int) (i : Int) kind K V P = some (pb ((∀ j, i ≤ j → j < V.length → Val (tx V j)) ∧ ∀ j, j < P.length → Page (rd P (j : Int)))) := by
  induction d with
  | zero =>
    intro k i hd hk
    obtain ⟨k, rfl⟩ : ∃ m, k = m + 1 := ⟨k - 1, by omega⟩
    simp only [dowserref09_Check.l1]
    have := ref_l2 P hp P.length k 0 (by omega) (by omega)
    rw [if_neg (by omega)]
    rw [show (0 : Int) = ((0 : Nat) : Int) from rfl, this]
    congr 1
    exact pb_congr ⟨fun h => ⟨fun j hj hl => by omega, fun j hl => h j (by omega) hl⟩, fun h j _ hl => h.2 j hl⟩
  | succ d ih =>
    intro k i hd hk
    obtain ⟨k, rfl⟩ : ∃ m, k = m + 1 := ⟨k - 1, by omega⟩
    have h1 : (i : Int) < (V.length : Int) := by omega
    simp only [dowserref09_Check.l1]
    rw [if_pos h1, if_pos (Int.natCast_nonneg _), if_pos h1]
    by_cases c1 : ((rdOf ByteArray.empty V (i : Int)).size : Int) > 32
    · rw [if_pos c1, pb_false (fun h => by have := h.1 i (Nat.le_refl _) (by omega); unfold Val tx at this; omega)]
    · rw [if_neg c1, w_succ (by omega), ih k (i + 1) (by omega) (by omega)]
      congr 1
      refine pb_congr ⟨fun h => ⟨fun j hj hl => ?_, h.2⟩, fun h => ⟨fun j hj hl => h.1 j (by omega) hl, h.2⟩⟩
      by_cases e : j = i
      · rw [e]; unfold Val tx; omega
      · exact h.1 j (by omega) hl
theorem ref_l0 (kind : Int) (K V : List ByteArray) (P : List Int) (hp : P.length < 2 ^ 62) (hv : V.length < 2 ^ 62) (hl : K.length < 2 ^ 62) (d : Nat) : ∀ (k i : Nat), K.length - i = d → d + V.length + P.length + 2 < k →
    dowserref09_Check.l0 k K (K.length : Int) (i : Int) kind K V P = some (pb ((∀ j, i ≤ j → j < K.length → Key (tx K j) ∧ (0 < j → less K j = true)) ∧ (∀ j, j < V.length → Val (tx V j)) ∧ ∀ j, j < P.length → Page (rd P (j : Int)))) := by
  induction d with
  | zero =>
    intro k i hd hk
    obtain ⟨k, rfl⟩ : ∃ m, k = m + 1 := ⟨k - 1, by omega⟩
    simp only [dowserref09_Check.l0]
    have := ref_l1 kind K V P hp hv V.length k 0 (by omega) (by omega)
    rw [if_neg (by omega)]
    rw [show (0 : Int) = ((0 : Nat) : Int) from rfl, this]
    congr 1
    exact pb_congr ⟨fun h => ⟨fun j hj hl => by omega, fun j hl => h.1 j (by omega) hl, h.2⟩, fun h => ⟨fun j _ hl => h.2.1 j hl, h.2.2⟩⟩
  | succ d ih =>
    intro k i hd hk
    obtain ⟨k, rfl⟩ : ∃ m, k = m + 1 := ⟨k - 1, by omega⟩
    have h1 : (i : Int) < (K.length : Int) := by omega
    simp only [dowserref09_Check.l0]
    rw [if_pos h1, if_pos (Int.natCast_nonneg _), if_pos h1]
    by_cases c1 : (rdOf ByteArray.empty K (i : Int)).toList = []
    · rw [if_pos c1, pb_false (fun h => (h.1 i (Nat.le_refl _) (by omega)).1.1 c1)]
    · by_cases c2 : ((rdOf ByteArray.empty K (i : Int)).size : Int) > 16
      · rw [if_neg c1, if_pos c2, pb_false (fun h => by have := (h.1 i (Nat.le_refl _) (by omega)).1.2; unfold tx at this; omega)]
      · have kk : Key (tx K i) := ⟨c1, by unfold tx; omega⟩
        rw [if_neg c1, if_neg c2]
        by_cases c3 : 0 < i
        · have h3 : ((i - 1 : Nat) : Int) < (K.length : Int) := by omega
          have c3' : (i : Int) > 0 := by omega
          rw [if_pos c3', w_pred (by omega) (by omega), if_pos (Int.natCast_nonneg _), if_pos h3]
          by_cases c4 : less K i = true
          · have c4' := c4
            unfold less tx at c4'
            rw [if_pos c4', w_succ (by omega), ih k (i + 1) (by omega) (by omega)]
            congr 1
            refine pb_congr ⟨fun h => ⟨fun j hj hl => ?_, h.2⟩, fun h => ⟨fun j hj hl => h.1 j (by omega) hl, h.2⟩⟩
            by_cases e : j = i
            · rw [e]; exact ⟨kk, fun _ => c4⟩
            · exact h.1 j (by omega) hl
          · have c4' := c4
            unfold less tx at c4'
            rw [if_neg c4', pb_false (fun h => c4 ((h.1 i (Nat.le_refl _) (by omega)).2 c3))]
        · rw [if_neg (by omega), w_succ (by omega), ih k (i + 1) (by omega) (by omega)]
          congr 1
          refine pb_congr ⟨fun h => ⟨fun j hj hl => ?_, h.2⟩, fun h => ⟨fun j hj hl => h.1 j (by omega) hl, h.2⟩⟩
          by_cases e : j = i
          · rw [e]; exact ⟨kk, fun h => absurd h c3⟩
          · exact h.1 j (by omega) hl
theorem refcheck_is (k : Nat) (kind : Int) (K V : List ByteArray) (P : List Int) (hl : K.length < 2 ^ 62) (hv : V.length < 2 ^ 62) (hp : P.length < 2 ^ 62) (hk : K.length + V.length + P.length + 6 < k) :
    dowserref09_Check.f k kind K V P = some (pb (Good kind K V P)) := by
  obtain ⟨k, rfl⟩ : ∃ m, k = m + 3 := ⟨k - 3, by omega⟩
  have h0 := ref_l0 kind K V P hp hv hl K.length k 0 (by omega) (by omega)
  have hL : dowserref09_Check.l0 k K (K.length : Int) 0 kind K V P = some (pb ((∀ j, j < K.length → Key (tx K j)) ∧ Rise K 1 ∧ (∀ j, j < V.length → Val (tx V j)) ∧ ∀ j, j < P.length → Page (rd P (j : Int)))) := by
    rw [show (0 : Int) = ((0 : Nat) : Int) from rfl, h0]
    congr 1
    exact pb_congr ⟨fun h => ⟨fun j hl => (h.1 j (by omega) hl).1, fun j hj hl => (h.1 j (by omega) hl).2 (by omega), h.2⟩, fun h => ⟨fun j _ hl => ⟨h.1 j hl, fun hj => h.2.1 j (by omega) hl⟩, h.2.2⟩⟩
  clear h0
  have hG : Shape kind K V P → some (pb ((∀ j, j < K.length → Key (tx K j)) ∧ Rise K 1 ∧ (∀ j, j < V.length → Val (tx V j)) ∧ ∀ j, j < P.length → Page (rd P (j : Int)))) = some (pb (Good kind K V P)) := fun hs => by
    congr 1
    exact pb_congr ⟨fun h => ⟨hs, h⟩, fun h => h.2⟩
  have hN : ¬ Shape kind K V P → some false = some (pb (Good kind K V P)) := fun hs => by rw [pb_false (fun h => hs h.1)]
  unfold dowserref09_Check.f
  simp only [dowserref09_Check.j0, dowserref09_Check.j1, dowserref09_Check.j2, hL]
  by_cases k1 : kind = 1
  · subst k1
    simp only [if_true, Bool.false_eq_true, if_false, decide_eq_true_eq]
    have h12 : ¬ ((1 : Int) = 2) := by omega
    simp only [if_neg h12]
    by_cases c1 : (V.length : Int) = (K.length : Int)
    · rw [if_pos c1]
      by_cases c2 : (P.length : Int) > 0
      · rw [if_pos c2]; exact hN (fun h => by unfold Shape at h; omega)
      · rw [if_neg c2]; exact hG (Or.inl ⟨rfl, by omega, by omega⟩)
    · rw [if_neg c1]; exact hN (fun h => by unfold Shape at h; omega)
  · rw [if_neg k1]
    by_cases k2 : kind = 2
    · subst k2
      have e : ((2 : Int) != 2) = false := rfl
      simp only [e, if_neg k1, Bool.false_eq_true, if_false, if_true, beq_iff_eq]
      by_cases c1 : (P.length : Int) = (K.length : Int)
      · rw [if_pos c1]
        by_cases c2 : (V.length : Int) > 0
        · rw [if_pos c2]; exact hN (fun h => by unfold Shape at h; omega)
        · rw [if_neg c2]
          by_cases c3 : (K.length : Int) = 0
          · rw [if_pos c3]; exact hN (fun h => by unfold Shape at h; omega)
          · rw [if_neg c3]; exact hG (Or.inr ⟨rfl, by omega, by omega, by omega⟩)
      · rw [if_neg c1]; exact hN (fun h => by unfold Shape at h; omega)
    · have e : (kind != 2) = true := by rw [bne_iff_ne]; exact k2
      rw [if_pos e]; exact hN (fun h => by unfold Shape at h; omega)
end Go.Proofs.Ytlboglbgdjakmaa.PA
