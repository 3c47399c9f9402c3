-- own texts, joined: NodeCheck.lean NodeParse.lean NodeRefParse.lean NodePack.lean NodeSame.lean NodeAwake.lean PureNodeParses.lean
import Derived.Test.YtlboglbgdjakmaaPAx10
import Derived.Test.YtlboglbgdjakmaaPAx12
import Derived.Test.YtlboglbgdjakmaaPAx13
import Derived.Test.YtlboglbgdjakmaaPAx14
import Derived.Test.YtlboglbgdjakmaaPAx17
import Derived.Test.YtlboglbgdjakmaaPAx20
import Derived.Test.YtlboglbgdjakmaaPAx21
import Derived.Test.YtlboglbgdjakmaaPAx22
import Derived.Test.YtlboglbgdjakmaaPAx23
import Derived.Test.YtlboglbgdjakmaaPAx4
import Derived.Test.YtlboglbgdjakmaaVarPlain
import Derived.Test.YtlboglbgdjakmaaTools
import Derived.Test.YtlboglbgdjakmaaVarTxt
import Derived.Test.YtlboglbgdjakmaaVarRefHead
import Derived.Test.YtlboglbgdjakmaaCut01
-- which nodes may be: the program's Check and the document's
namespace Go.Proofs.Ytlboglbgdjakmaa.PA
open Go.RowKit Go.Proofs.YtlboglbgdjakmaaW.PrintWords Go.Proofs.YtlboglbgdjakmaaW.PrintLast Go.Proofs.YtlboglbgdjakmaaW.PrintMore Go.Proofs.Ytlboglbgdjakmaa.VarPlain Go.Proofs.Ytlboglbgdjakmaa.Tools
def less (l : List ByteArray) (j : Nat) : Bool := Op.bytesLess (tx l (j - 1)).toList (tx l j).toList
def Key (s : ByteArray) : Prop := s.toList ≠ [] ∧ (s.size : Int) ≤ 16
def Val (s : ByteArray) : Prop := (s.size : Int) ≤ 32
def Page (x : Int) : Prop := 0 ≤ x ∧ x ≤ 2147483647
def Rise (l : List ByteArray) (i : Nat) : Prop := ∀ j, i ≤ j → j < l.length → less l j = true
def Shape (kind : Int) (K V : List ByteArray) (P : List Int) : Prop :=
  kind = 1 ∧ V.length = K.length ∧ P.length = 0 ∨ kind = 2 ∧ P.length = K.length ∧ V.length = 0 ∧ 0 < K.length
def Good (kind : Int) (K V : List ByteArray) (P : List Int) : Prop :=
  Shape kind K V P ∧ (∀ j, j < K.length → Key (tx K j)) ∧ Rise K 1 ∧ (∀ j, j < V.length → Val (tx V j)) ∧ ∀ j, j < P.length → Page (rd P (j : Int))
theorem key_p (s : ByteArray) : node_all_key.p_ s = true ↔ Key s := by
  unfold node_all_key.p_ Key
  rw [Bool.and_eq_true, decide_eq_true_iff]
  simp
theorem val_p (s : ByteArray) : node_all_value.p_ s = true ↔ Val s := by unfold node_all_value.p_ Val; rw [decide_eq_true_iff]
theorem page_p (x : Int) : node_all_page.p_ x = true ↔ Page x := by unfold node_all_page.p_ Page; rw [Bool.and_eq_true, decide_eq_true_iff, decide_eq_true_iff]
theorem Rise_at (l : List ByteArray) (i : Nat) (hi : i < l.length) : Rise l i ↔ less l i = true ∧ Rise l (i + 1) := by
  refine ⟨fun h => ⟨h i (Nat.le_refl _) hi, fun j hj hl => h j (by omega) hl⟩, fun h j hj hl => ?_⟩
  by_cases e : j = i
  · rw [e]; exact h.1
  · exact h.2 j (by omega) hl
def fin (kind : Int) (x : Bool) (K V : List ByteArray) (P : List Int) : Option Int :=
  if kind = 1 then (if x = true then (if (V.length : Int) = (K.length : Int) then (if ((P.length : Int) = 0) then (some 0) else (some 1)) else (some 1)) else (some 1)) else (if kind = 2 then (if x = true then (if (P.length : Int) = (K.length : Int) then (if (V.length : Int) = 0 then (if ((K.length : Int) > 0) then (some 0) else (some 1)) else (some 1)) else (some 1)) else (some 1)) else (some 1))
open Classical in
theorem fin_is (kind : Int) (x : Bool) (K V : List ByteArray) (P : List Int) : fin kind x K V P = some (if x = true ∧ Shape kind K V P then 0 else 1) := by
  unfold fin Shape
  cases x <;> repeat' split
  all_goals first | rfl | (exfalso; omega) | (exfalso; simp_all; done) | (exfalso; simp_all; omega)
theorem own_loop (kind : Int) (K V : List ByteArray) (P : List Int) (hl : K.length < 2 ^ 62) (d : Nat) : ∀ (k i : Nat) (x : Bool), K.length - i = d → 1 ≤ i → d < k →
    node_Node_Check.l0 k x (i : Int) kind K V P = fin kind (x && pb (Rise K i)) K V P := by
  induction d with
  | zero =>
    intro k i x hd hi hk
    obtain ⟨k, rfl⟩ : ∃ m, k = m + 1 := ⟨k - 1, by omega⟩
    have h1 : ¬ (i : Int) < (K.length : Int) := by omega
    simp only [node_Node_Check.l0]
    rw [if_neg h1, pb_true (show Rise K i from fun j hj hl => by omega), Bool.and_true]; rfl
  | succ d ih =>
    intro k i x hd hi hk
    obtain ⟨k, rfl⟩ : ∃ m, k = m + 1 := ⟨k - 1, by omega⟩
    have h1 : (i : Int) < (K.length : Int) := by omega
    simp only [node_Node_Check.l0]
    have h2 : (0 : Int) ≤ ((i - 1 : Nat) : Int) := by omega
    have h3 : ((i - 1 : Nat) : Int) < (K.length : Int) := by omega
    have h4 : (0 : Int) ≤ (i : Int) := by omega
    rw [if_pos h1, w_pred hi (by omega), w_succ (by omega), if_pos h2, if_pos h3, if_pos h4]
    have hR := pb_congr (Rise_at K i (by omega))
    cases x with
    | true =>
      rw [if_pos rfl, ih k (i + 1) _ (by omega) (by omega) (by omega)]
      congr 1
      rw [Bool.true_and, hR]
      show (less K i && pb (Rise K (i + 1))) = _
      refine eq_pb ?_
      rw [Bool.and_eq_true, pb_iff]
    | false =>
      rw [if_neg (by simp), ih k (i + 1) _ (by omega) (by omega) (by omega)]
      rfl
theorem fin_false (kind : Int) (x : Bool) (h : x = false) (K V : List ByteArray) (P : List Int) : fin kind x K V P = some 1 := by
  classical
  rw [fin_is, if_neg (by rw [h]; simp)]
open Classical in
theorem check_is (k : Nat) (kind : Int) (K V : List ByteArray) (P : List Int) (hl : K.length < 2 ^ 62) (hk : K.length + 1 < k) :
    node_Node_Check.f k kind K V P = some (if Good kind K V P then 0 else 1) := by
  obtain ⟨k, rfl⟩ : ∃ m, k = m + 1 := ⟨k - 1, by omega⟩
  have go : ∀ x, node_Node_Check.j0 (k + 1) x kind K V P = fin kind (x && pb (Rise K 1)) K V P := fun x => by
    simp only [node_Node_Check.j0]
    exact own_loop kind K V P hl _ k 1 x rfl (Nat.le_refl _) (by omega)
  unfold node_Node_Check.f node_all_key.f node_all_value.f node_all_page.f
  simp only [Option.bind_some, go]
  rw [all_tx, all_tx, all_rd, fin_is, fin_is]
  simp only [key_p, val_p, page_p, Bool.false_and, Bool.false_eq_true, false_and, if_false, Bool.and_eq_true, pb_iff]
  by_cases h1 : ∀ j, j < K.length → Key (tx K j)
  · rw [if_pos h1]
    by_cases h2 : ∀ j, j < V.length → Val (tx V j)
    · rw [if_pos h2]
      congr 1
      have : ((((∀ j, j < P.length → Page (rd P (j : Int))) ∧ Rise K 1) ∧ Shape kind K V P) ↔ Good kind K V P) := ⟨fun h => ⟨h.2, h1, h.1.2, h2, h.1.1⟩, fun h => ⟨⟨h.2.2.2.2, h.2.2.1⟩, h.1⟩⟩
      simp only [this]
    · rw [if_neg h2, if_neg (fun h => h2 h.2.2.2.1)]
  · rw [if_neg h1, if_neg (fun h => h1 h.2.1)]
/-! The document's. -/
theorem ref_l2 (P : List Int) (hp : P.length < 2 ^ 62) (d : Nat) : ∀ (k i : Nat), P.length - i = d → d < k →
    dowserref09_Check.l2 k P (P.length : Int) (i : Int) = some (pb (∀ j, i ≤ j → j < P.length → Page (rd P (j : Int)))) := by
  induction d with
  | zero =>
    intro k i hd hk
    obtain ⟨k, rfl⟩ : ∃ m, k = m + 1 := ⟨k - 1, by omega⟩
    simp only [dowserref09_Check.l2]
    rw [if_neg (by omega), pb_true (fun j hj hl => by omega)]
  | succ d ih =>
    intro k i hd hk
    obtain ⟨k, rfl⟩ : ∃ m, k = m + 1 := ⟨k - 1, by omega⟩
    have h1 : (i : Int) < (P.length : Int) := by omega
    simp only [dowserref09_Check.l2]
    rw [if_pos h1, if_pos (Int.natCast_nonneg _), if_pos h1]
    by_cases c1 : rd P (i : Int) < 0
    · rw [if_pos c1, pb_false (fun h => by have := (h i (Nat.le_refl _) (by omega)).1; omega)]
    · by_cases c2 : rd P (i : Int) > 2147483647
      · rw [if_neg c1, if_pos c2, pb_false (fun h => by have := (h i (Nat.le_refl _) (by omega)).2; omega)]
      · rw [if_neg c1, if_neg c2, w_succ (by omega), ih k (i + 1) (by omega) (by omega)]
        congr 1
        refine pb_congr ⟨fun h j hj hl => ?_, fun h j hj hl => h j (by omega) hl⟩
        by_cases e : j = i
        · rw [e]; exact ⟨by omega, by omega⟩
        · exact h j (by omega) hl
theorem ref_l1 (kind : Int) (K V : List ByteArray) (P : List Int) (hp : P.length < 2 ^ 62) (hv : V.length < 2 ^ 62) (d : Nat) : ∀ (k i : Nat), V.length - i = d → d + P.length + 1 < k →
    dowserref09_Check.l1 k V (V.length : Int) (i : Int) kind K V P = some (pb ((∀ j, i ≤ j → j < V.length → Val (tx V j)) ∧ ∀ j, j < P.length → Page (rd P (j : Int)))) := by
  induction d with
  | zero =>
    intro k i hd hk
    obtain ⟨k, rfl⟩ : ∃ m, k = m + 1 := ⟨k - 1, by omega⟩
    simp only [dowserref09_Check.l1]
    have := ref_l2 P hp P.length k 0 (by omega) (by omega)
    rw [if_neg (by omega)]
    rw [show (0 : Int) = ((0 : Nat) : Int) from rfl, this]
    congr 1
    exact pb_congr ⟨fun h => ⟨fun j hj hl => by omega, fun j hl => h j (by omega) hl⟩, fun h j _ hl => h.2 j hl⟩
  | succ d ih =>
    intro k i hd hk
    obtain ⟨k, rfl⟩ : ∃ m, k = m + 1 := ⟨k - 1, by omega⟩
    have h1 : (i : Int) < (V.length : Int) := by omega
    simp only [dowserref09_Check.l1]
    rw [if_pos h1, if_pos (Int.natCast_nonneg _), if_pos h1]
    by_cases c1 : ((rdOf ByteArray.empty V (i : Int)).size : Int) > 32
    · rw [if_pos c1, pb_false (fun h => by have := h.1 i (Nat.le_refl _) (by omega); unfold Val tx at this; omega)]
    · rw [if_neg c1, w_succ (by omega), ih k (i + 1) (by omega) (by omega)]
      congr 1
      refine pb_congr ⟨fun h => ⟨fun j hj hl => ?_, h.2⟩, fun h => ⟨fun j hj hl => h.1 j (by omega) hl, h.2⟩⟩
      by_cases e : j = i
      · rw [e]; unfold Val tx; omega
      · exact h.1 j (by omega) hl
theorem ref_l0 (kind : Int) (K V : List ByteArray) (P : List Int) (hp : P.length < 2 ^ 62) (hv : V.length < 2 ^ 62) (hl : K.length < 2 ^ 62) (d : Nat) : ∀ (k i : Nat), K.length - i = d → d + V.length + P.length + 2 < k →
    dowserref09_Check.l0 k K (K.length : Int) (i : Int) kind K V P = some (pb ((∀ j, i ≤ j → j < K.length → Key (tx K j) ∧ (0 < j → less K j = true)) ∧ (∀ j, j < V.length → Val (tx V j)) ∧ ∀ j, j < P.length → Page (rd P (j : Int)))) := by
  induction d with
  | zero =>
    intro k i hd hk
    obtain ⟨k, rfl⟩ : ∃ m, k = m + 1 := ⟨k - 1, by omega⟩
    simp only [dowserref09_Check.l0]
    have := ref_l1 kind K V P hp hv V.length k 0 (by omega) (by omega)
    rw [if_neg (by omega)]
    rw [show (0 : Int) = ((0 : Nat) : Int) from rfl, this]
    congr 1
    exact pb_congr ⟨fun h => ⟨fun j hj hl => by omega, fun j hl => h.1 j (by omega) hl, h.2⟩, fun h => ⟨fun j _ hl => h.2.1 j hl, h.2.2⟩⟩
  | succ d ih =>
    intro k i hd hk
    obtain ⟨k, rfl⟩ : ∃ m, k = m + 1 := ⟨k - 1, by omega⟩
    have h1 : (i : Int) < (K.length : Int) := by omega
    simp only [dowserref09_Check.l0]
    rw [if_pos h1, if_pos (Int.natCast_nonneg _), if_pos h1]
    by_cases c1 : (rdOf ByteArray.empty K (i : Int)).toList = []
    · rw [if_pos c1, pb_false (fun h => (h.1 i (Nat.le_refl _) (by omega)).1.1 c1)]
    · by_cases c2 : ((rdOf ByteArray.empty K (i : Int)).size : Int) > 16
      · rw [if_neg c1, if_pos c2, pb_false (fun h => by have := (h.1 i (Nat.le_refl _) (by omega)).1.2; unfold tx at this; omega)]
      · have kk : Key (tx K i) := ⟨c1, by unfold tx; omega⟩
        rw [if_neg c1, if_neg c2]
        by_cases c3 : 0 < i
        · have h3 : ((i - 1 : Nat) : Int) < (K.length : Int) := by omega
          have c3' : (i : Int) > 0 := by omega
          rw [if_pos c3', w_pred (by omega) (by omega), if_pos (Int.natCast_nonneg _), if_pos h3]
          by_cases c4 : less K i = true
          · have c4' := c4
            unfold less tx at c4'
            rw [if_pos c4', w_succ (by omega), ih k (i + 1) (by omega) (by omega)]
            congr 1
            refine pb_congr ⟨fun h => ⟨fun j hj hl => ?_, h.2⟩, fun h => ⟨fun j hj hl => h.1 j (by omega) hl, h.2⟩⟩
            by_cases e : j = i
            · rw [e]; exact ⟨kk, fun _ => c4⟩
            · exact h.1 j (by omega) hl
          · have c4' := c4
            unfold less tx at c4'
            rw [if_neg c4', pb_false (fun h => c4 ((h.1 i (Nat.le_refl _) (by omega)).2 c3))]
        · rw [if_neg (by omega), w_succ (by omega), ih k (i + 1) (by omega) (by omega)]
          congr 1
          refine pb_congr ⟨fun h => ⟨fun j hj hl => ?_, h.2⟩, fun h => ⟨fun j hj hl => h.1 j (by omega) hl, h.2⟩⟩
          by_cases e : j = i
          · rw [e]; exact ⟨kk, fun h => absurd h c3⟩
          · exact h.1 j (by omega) hl
theorem refcheck_is (k : Nat) (kind : Int) (K V : List ByteArray) (P : List Int) (hl : K.length < 2 ^ 62) (hv : V.length < 2 ^ 62) (hp : P.length < 2 ^ 62) (hk : K.length + V.length + P.length + 6 < k) :
    dowserref09_Check.f k kind K V P = some (pb (Good kind K V P)) := by
  obtain ⟨k, rfl⟩ : ∃ m, k = m + 3 := ⟨k - 3, by omega⟩
  have h0 := ref_l0 kind K V P hp hv hl K.length k 0 (by omega) (by omega)
  have hL : dowserref09_Check.l0 k K (K.length : Int) 0 kind K V P = some (pb ((∀ j, j < K.length → Key (tx K j)) ∧ Rise K 1 ∧ (∀ j, j < V.length → Val (tx V j)) ∧ ∀ j, j < P.length → Page (rd P (j : Int)))) := by
    rw [show (0 : Int) = ((0 : Nat) : Int) from rfl, h0]
    congr 1
    exact pb_congr ⟨fun h => ⟨fun j hl => (h.1 j (by omega) hl).1, fun j hj hl => (h.1 j (by omega) hl).2 (by omega), h.2⟩, fun h => ⟨fun j _ hl => ⟨h.1 j hl, fun hj => h.2.1 j (by omega) hl⟩, h.2.2⟩⟩
  clear h0
  have hG : Shape kind K V P → some (pb ((∀ j, j < K.length → Key (tx K j)) ∧ Rise K 1 ∧ (∀ j, j < V.length → Val (tx V j)) ∧ ∀ j, j < P.length → Page (rd P (j : Int)))) = some (pb (Good kind K V P)) := fun hs => by
    congr 1
    exact pb_congr ⟨fun h => ⟨hs, h⟩, fun h => h.2⟩
  have hN : ¬ Shape kind K V P → some false = some (pb (Good kind K V P)) := fun hs => by rw [pb_false (fun h => hs h.1)]
  unfold dowserref09_Check.f
  simp only [dowserref09_Check.j0, dowserref09_Check.j1, dowserref09_Check.j2, hL]
  by_cases k1 : kind = 1
  · subst k1
    simp only [if_true, Bool.false_eq_true, if_false, decide_eq_true_eq]
    have h12 : ¬ ((1 : Int) = 2) := by omega
    simp only [if_neg h12]
    by_cases c1 : (V.length : Int) = (K.length : Int)
    · rw [if_pos c1]
      by_cases c2 : (P.length : Int) > 0
      · rw [if_pos c2]; exact hN (fun h => by unfold Shape at h; omega)
      · rw [if_neg c2]; exact hG (Or.inl ⟨rfl, by omega, by omega⟩)
    · rw [if_neg c1]; exact hN (fun h => by unfold Shape at h; omega)
  · rw [if_neg k1]
    by_cases k2 : kind = 2
    · subst k2
      have e : ((2 : Int) != 2) = false := rfl
      simp only [e, if_neg k1, Bool.false_eq_true, if_false, if_true, beq_iff_eq]
      by_cases c1 : (P.length : Int) = (K.length : Int)
      · rw [if_pos c1]
        by_cases c2 : (V.length : Int) > 0
        · rw [if_pos c2]; exact hN (fun h => by unfold Shape at h; omega)
        · rw [if_neg c2]
          by_cases c3 : (K.length : Int) = 0
          · rw [if_pos c3]; exact hN (fun h => by unfold Shape at h; omega)
          · rw [if_neg c3]; exact hG (Or.inr ⟨rfl, by omega, by omega, by omega⟩)
      · rw [if_neg c1]; exact hN (fun h => by unfold Shape at h; omega)
    · have e : (kind != 2) = true := by rw [bne_iff_ne]; exact k2
      rw [if_pos e]; exact hN (fun h => by unfold Shape at h; omega)
end Go.Proofs.Ytlboglbgdjakmaa.PA

-- of any bytes the node: the program's Parse and the document's, over one plain reading
namespace Go.Proofs.Ytlboglbgdjakmaa.PA
open Go.RowKit Go.Proofs.YtlboglbgdjakmaaW.PrintWords Go.Proofs.YtlboglbgdjakmaaW.PrintLast Go.Proofs.YtlboglbgdjakmaaW.PrintMore Go.Proofs.Ytlboglbgdjakmaa.VarPlain Go.Proofs.Ytlboglbgdjakmaa.Tools
/-! Facts of the plain reading. -/
theorem rText_err (e most : Int) (he : e ≠ 0) : rText [] e most = ([], [], e) := by
  unfold rText rNum
  rw [if_neg he]
  unfold rRaw
  rw [if_neg (by simp), if_neg he]
theorem rNum_err (l : List UInt8) (e : Int) (most : Nat) (he : e ≠ 0) : rNum l e most = (0, l, e) := by unfold rNum; rw [if_neg he]
theorem rNum_bad (l : List UInt8) (most : Nat) (h : (rNum l 0 most).2.2 ≠ 0) : rNum l 0 most = (0, [], (rNum l 0 most).2.2) := by
  unfold rNum at h ⊢
  rw [if_pos rfl] at h ⊢
  split
  · split
    · rfl
    · rename_i h1 h2; rw [if_pos h1, if_neg h2] at h; exact absurd rfl h
  · rfl
theorem rNum_head (l : List UInt8) (most : Nat) (h : (rNum l 0 most).2.2 = 0) : l = enc (rNum l 0 most).1 ++ (rNum l 0 most).2.1 ∧ (rNum l 0 most).1 ≤ most := by
  refine ⟨?_, (rNum_lt l 0 most).2.1⟩
  unfold rNum at h ⊢
  rw [if_pos rfl] at h ⊢
  by_cases h1 : (scanL 0 0 l).2.2 = 0
  · rw [if_pos h1] at h ⊢
    by_cases h2 : most < (scanL 0 0 l).1
    · rw [if_pos h2] at h; exact absurd h (by simp)
    · rw [if_neg h2]
      obtain ⟨rest, e1, e2⟩ := scanL_head l h1
      simp only
      have : l.drop (scanL 0 0 l).2.1 = rest := by
        rw [e2]
        exact (congrArg (List.drop (enc (scanL 0 0 l).1).length) e1).trans List.drop_left
      rw [this]; exact e1
  · rw [if_neg h1] at h; simp only at h; omega
theorem rText_bad (l : List UInt8) (most : Int) (h : (rText l 0 most).2.2 ≠ 0) : rText l 0 most = ([], [], (rText l 0 most).2.2) := by
  by_cases h1 : (rNum l 0 most.toNat).2.2 = 0
  · unfold rText at h ⊢
    rw [h1] at h ⊢
    unfold rRaw rFail at h ⊢
    have h20 : ¬ ((2 : Int) = 0) := by omega
    by_cases c : ((rNum l 0 most.toNat).2.1.length : Int) < ((rNum l 0 most.toNat).1 : Int)
    · simp only [if_pos c, if_neg h20, if_true]
    · simp only [if_neg c, if_true] at h; exact absurd rfl h
  · have := rNum_bad l most.toNat h1
    unfold rText
    rw [this]
    unfold rRaw
    rw [if_neg (by simp), if_neg h1]
theorem rText_head (l : List UInt8) (most : Int) (h : (rText l 0 most).2.2 = 0) : l = encT (rText l 0 most).1 ++ (rText l 0 most).2.1 ∧ (rText l 0 most).1.length ≤ most.toNat := by
  by_cases h1 : (rNum l 0 most.toNat).2.2 = 0
  · obtain ⟨e1, e2⟩ := rNum_head l most.toNat h1
    unfold rText at h ⊢
    rw [h1] at h ⊢
    unfold rRaw rFail at h ⊢
    by_cases c : ((rNum l 0 most.toNat).2.1.length : Int) < ((rNum l 0 most.toNat).1 : Int)
    · rw [if_pos c, if_pos rfl, if_neg (by omega)] at h; exact absurd h (by simp)
    · rw [if_neg c, if_pos rfl]
      simp only [Int.toNat_natCast]
      unfold encT
      have : (List.take (rNum l 0 most.toNat).1 (rNum l 0 most.toNat).2.1).length = (rNum l 0 most.toNat).1 := by rw [List.length_take]; omega
      rw [this]
      refine ⟨?_, e2⟩
      rw [List.append_assoc, List.take_append_drop]
      exact e1
  · have := rNum_bad l most.toNat h1
    unfold rText at h
    rw [this] at h
    unfold rRaw at h
    rw [if_neg (by simp), if_neg h1] at h
    exact absurd h h1
/-- One entry's reading: its key, value, page; what is left; the error. -/
def stepL (leaf : Bool) (l : List UInt8) : (ByteArray × ByteArray × Int) × List UInt8 × Int :=
  if leaf then ((mkS (rText l 0 16).1, mkS (rText (rText l 0 16).2.1 (rText l 0 16).2.2 32).1, 0), (rText (rText l 0 16).2.1 (rText l 0 16).2.2 32).2)
  else ((mkS (rText l 0 16).1, mkS [], ((rNum (rText l 0 16).2.1 (rText l 0 16).2.2 2147483647).1 : Int)), (rNum (rText l 0 16).2.1 (rText l 0 16).2.2 2147483647).2)
def entL (leaf : Bool) (x : ByteArray × ByteArray × Int) : List UInt8 := encT (lst x.1) ++ (if leaf then encT (lst x.2.1) else enc x.2.2.toNat)
def Small (x : ByteArray × ByteArray × Int) : Prop := x.1.size ≤ 16 ∧ x.2.1.size ≤ 32 ∧ 0 ≤ x.2.2 ∧ x.2.2 ≤ 2147483647
theorem step_bad (leaf : Bool) (l : List UInt8) (h : (stepL leaf l).2.2 ≠ 0) : (stepL leaf l).2.1 = [] := by
  unfold stepL at h ⊢
  by_cases h1 : (rText l 0 16).2.2 = 0
  · cases leaf
    · simp only [Bool.false_eq_true, if_false, h1] at h ⊢
      rw [rNum_bad _ _ h]
    · simp only [if_true, h1] at h ⊢
      rw [rText_bad _ _ h]
  · have e := rText_bad l 16 h1
    cases leaf
    · simp only [Bool.false_eq_true, if_false] at h ⊢
      rw [rNum_err _ _ _ h1, e]
    · simp only [if_true] at h ⊢
      rw [e, rText_err _ _ h1]
theorem step_good (leaf : Bool) (l : List UInt8) (h : (stepL leaf l).2.2 = 0) : l = entL leaf (stepL leaf l).1 ++ (stepL leaf l).2.1 ∧ (rText l 0 16).2.2 = 0 ∧ Small (stepL leaf l).1 := by
  have h1 : (rText l 0 16).2.2 = 0 := Classical.byContradiction fun h1 => by
    have e := rText_bad l 16 h1
    unfold stepL at h
    cases leaf
    · simp only [Bool.false_eq_true, if_false] at h
      rw [rNum_err _ _ _ h1] at h
      exact h1 h
    · simp only [if_true] at h
      rw [e, rText_err _ _ h1] at h
      exact h1 h
  obtain ⟨e1, e2⟩ := rText_head l 16 h1
  refine ⟨?_, h1, ?_⟩
  · unfold stepL at h ⊢
    unfold entL
    rw [h1] at h ⊢
    cases leaf
    · simp only [Bool.false_eq_true, if_false, lst_mk, Int.toNat_natCast] at h ⊢
      rw [List.append_assoc, ← (rNum_head _ _ h).1]; exact e1
    · simp only [if_true, lst_mk] at h ⊢
      rw [List.append_assoc, ← (rText_head _ _ h).1]; exact e1
  · unfold stepL at h ⊢
    rw [h1] at h ⊢
    unfold Small
    cases leaf
    · simp only [Bool.false_eq_true, if_false] at h ⊢
      have := (rNum_head _ _ h).2
      rw [size_mk, size_mk]
      exact ⟨e2, by simp, Int.natCast_nonneg _, by omega⟩
    · simp only [if_true] at h ⊢
      have := (rText_head _ _ h).2
      rw [size_mk, size_mk]
      exact ⟨e2, this, by omega, by omega⟩
theorem step_less (leaf : Bool) (l : List UInt8) (h : (stepL leaf l).2.2 = 0) : (stepL leaf l).2.1.length < l.length := by
  have := (step_good leaf l h).1
  have hl := congrArg List.length this
  rw [List.length_append] at hl
  have : 0 < (entL leaf (stepL leaf l).1).length := by
    unfold entL encT; rw [List.length_append, List.length_append]; have := enc_len_pos (lst (stepL leaf l).1.1).length; omega
  omega
abbrev Es := List (ByteArray × ByteArray × Int)
def Ks (E : Es) : List ByteArray := E.map (·.1)
def Vs (leaf : Bool) (E : Es) : List ByteArray := if leaf then E.map (·.2.1) else []
def Ps (leaf : Bool) (E : Es) : List Int := if leaf then [] else E.map (·.2.2)
/-- The entries, of so many, with what is left and the error. -/
def parseL (leaf : Bool) : Nat → Nat → List UInt8 → Es → Es × List UInt8 × Int
  | _, 0, l, E => (E, l, 0)
  | 0, _ + 1, l, E => (E, [], (stepL leaf l).2.2)
  | d + 1, c + 1, l, E => if (stepL leaf l).2.2 = 0 then parseL leaf d c (stepL leaf l).2.1 (E ++ [(stepL leaf l).1]) else (E, [], (stepL leaf l).2.2)
open Classical in
noncomputable def finish (kind : Int) (leaf : Bool) (R : Es × List UInt8 × Int) : Int × List ByteArray × List ByteArray × List Int × Int :=
  if R.2.2 ≠ 0 then (0, [], [], [], R.2.2) else if R.2.1 ≠ [] then (0, [], [], [], 3) else if Good kind (Ks R.1) (Vs leaf R.1) (Ps leaf R.1) then (kind, Ks R.1, Vs leaf R.1, Ps leaf R.1, 0) else (0, [], [], [], 1)
theorem step_nil (leaf : Bool) : (stepL leaf []).2.2 ≠ 0 := fun h => by have := step_less leaf [] h; simp at this
theorem ks_len (E : Es) : (Ks E).length = E.length := by unfold Ks; rw [List.length_map]
theorem vs_len (leaf : Bool) (E : Es) : (Vs leaf E).length ≤ E.length := by unfold Vs; cases leaf <;> simp
theorem ps_len (leaf : Bool) (E : Es) : (Ps leaf E).length ≤ E.length := by unfold Ps; cases leaf <;> simp
/-! The program's Parse. -/
theorem own_end (k : Nat) (kind : Int) (leaf : Bool) (E : Es) (l : List UInt8) (c : Int) (e : Int) (h : c ≤ 0 ∨ e ≠ 0 ∧ l = []) (he : c ≤ 0 → e = 0 ∨ l = []) (hE : E.length ≤ 1000) (hk : 4000 < k) :
    node_Parse.l0 k kind c kind (Ks E) (Vs leaf E) (Ps leaf E) (mkS l) e = some (finish kind leaf (E, l, e)) := by
  obtain ⟨k, rfl⟩ : ∃ m, k = m + 2 := ⟨k - 2, by omega⟩
  have hc := check_is k kind (Ks E) (Vs leaf E) (Ps leaf E) (by rw [ks_len]; omega) (by rw [ks_len]; omega)
  have hj : node_Parse.j2 (k + 1) kind c false kind (Ks E) (Vs leaf E) (Ps leaf E) (mkS l) e = some (finish kind leaf (E, l, e)) := by
    simp only [node_Parse.j2]
    rw [if_neg (by simp), end_is, Option.bind_some, hc, lst_mk]
    simp only [Option.bind_some]
    unfold finish
    simp only
    have hle : e = 0 ∨ l = [] := by
      rcases h with h | h
      · exact he h
      · exact Or.inr h.2
    by_cases hl : l = []
    · subst hl
      rw [if_pos rfl]
      by_cases e0 : e = 0
      · subst e0
        have h10 : ¬ ((1 : Int) = 0) := by omega
        by_cases g : Good kind (Ks E) (Vs leaf E) (Ps leaf E)
        · simp only [if_pos g, if_true, ne_eq, not_true_eq_false, if_false]
        · simp only [if_neg g, if_true, ne_eq, not_true_eq_false, if_false, if_neg h10]
      · rw [if_neg e0, if_pos e0]
    · have e0 : e = 0 := hle.resolve_right hl
      rw [if_neg hl, if_neg (by omega), if_neg (by simp [e0]), if_pos hl]
  simp only [node_Parse.l0]
  by_cases hc : c > 0
  · rw [if_pos hc, err_is, Option.bind_some]
    have h2 : (e == 0) = false := by
      rw [beq_eq_false_iff_ne]; rcases h with h | h
      · omega
      · exact h.1
    rw [h2]; exact hj
  · rw [if_neg hc]; exact hj
theorem ks_add (E : Es) (x : ByteArray × ByteArray × Int) : Ks (E ++ [x]) = Ks E ++ [x.1] := by unfold Ks; rw [List.map_append]; rfl
theorem vs_add (E : Es) (x : ByteArray × ByteArray × Int) : Vs true (E ++ [x]) = Vs true E ++ [x.2.1] := by unfold Vs; rw [if_pos rfl, if_pos rfl, List.map_append]; rfl
theorem ps_add (E : Es) (x : ByteArray × ByteArray × Int) : Ps false (E ++ [x]) = Ps false E ++ [x.2.2] := by unfold Ps; rw [if_neg (by simp), if_neg (by simp), List.map_append]; rfl
theorem leaf_kind {kind : Int} {leaf : Bool} (h : leaf = true ↔ kind = 1) : (leaf = true ∧ kind = 1) ∨ (leaf = false ∧ kind ≠ 1) := by
  cases leaf
  · exact Or.inr ⟨rfl, fun e => by have := h.2 e; simp at this⟩
  · exact Or.inl ⟨rfl, h.1 rfl⟩
theorem u64_pred {c : Nat} (h : c + 1 < 18446744073709551616) : IntKind.u64.wrap (((c + 1 : Nat) : Int) - 1) = (c : Int) := by
  rw [show ((c + 1 : Nat) : Int) - 1 = (c : Int) by omega]; exact u64_in (by omega) (by omega)
theorem own_step (k : Nat) (kind : Int) (leaf : Bool) (hk1 : leaf = true ↔ kind = 1) (c : Nat) (hc : c + 1 < 18446744073709551616) (E : Es) (l : List UInt8) (hl : l.length ≤ 1000) (hE : E.length ≤ 1000) (hk : 4000 < k) :
    node_Parse.l0 (k + 2) kind ((c + 1 : Nat) : Int) kind (Ks E) (Vs leaf E) (Ps leaf E) (mkS l) 0 =
      node_Parse.l0 k kind (c : Int) kind (Ks (E ++ [(stepL leaf l).1])) (Vs leaf (E ++ [(stepL leaf l).1])) (Ps leaf (E ++ [(stepL leaf l).1])) (mkS (stepL leaf l).2.1) (stepL leaf l).2.2 := by
  have h0 : ((c + 1 : Nat) : Int) > 0 := by omega
  simp only [node_Parse.l0]
  rw [if_pos h0, err_is, Option.bind_some]
  simp only [node_Parse.j2]
  have e0 : ((0 : Int) == 0) = true := rfl
  rw [e0, if_pos rfl, intext_is k (mkS l) 0 16 (Or.inl rfl) (by rw [size_mk]; omega) (by rw [size_mk]; omega) (by omega), Option.bind_some, lst_mk]
  have hlen : (rText l 0 16).2.1.length ≤ l.length := by
    by_cases h : (rText l 0 16).2.2 = 0
    · have := congrArg List.length (rText_head l 16 h).1; rw [List.length_append] at this; omega
    · rw [rText_bad l 16 h]; simp
  have hr : (rText l 0 16).2.2 = 0 ∨ lst (mkS (rText l 0 16).2.1) = [] := by
    rw [lst_mk]
    by_cases h : (rText l 0 16).2.2 = 0
    · exact Or.inl h
    · rw [rText_bad l 16 h]; exact Or.inr rfl
  have hv := vs_len leaf E
  have hp := ps_len leaf E
  rw [if_pos (by rw [ks_len]; omega), Option.bind_some, u64_pred hc]
  rcases leaf_kind hk1 with ⟨rfl, rfl⟩ | ⟨rfl, hne⟩
  · rw [if_pos rfl, intext_is k _ _ 32 hr (by rw [size_mk]; omega) (by rw [size_mk]; omega) (by omega), Option.bind_some, if_pos (by omega), lst_mk, ks_add, vs_add]
    rfl
  · rw [if_neg hne, show (2147483647 : Int) = ((2147483647 : Nat) : Int) from rfl, innum_is k _ _ 2147483647 (by rw [size_mk]; omega) (by rw [size_mk]; omega), Option.bind_some, if_pos (by omega), lst_mk, ks_add, ps_add]
    have hw : ∀ n : Nat, n ≤ 2147483647 → wrap64 (n : Int) = (n : Int) := fun n h => by unfold wrap64; omega
    rw [hw _ (rNum_lt _ _ _).2.1]
    rfl
theorem own_loop2 (kind : Int) (leaf : Bool) (hk1 : leaf = true ↔ kind = 1) (d : Nat) : ∀ (k c : Nat) (l : List UInt8) (E : Es), c < 18446744073709551616 → l.length ≤ d → E.length + d < 1000 → 2 * d + 4005 < k →
    node_Parse.l0 k kind (c : Int) kind (Ks E) (Vs leaf E) (Ps leaf E) (mkS l) 0 = some (finish kind leaf (parseL leaf d c l E)) := by
  induction d with
  | zero =>
    intro k c l E hc hl hE hk
    obtain rfl : l = [] := List.length_eq_zero_iff.1 (by omega)
    cases c with
    | zero => exact own_end k kind leaf E [] _ 0 (Or.inl (by omega)) (fun _ => Or.inl rfl) (by omega) (by omega)
    | succ c =>
      obtain ⟨k, rfl⟩ : ∃ m, k = m + 2 := ⟨k - 2, by omega⟩
      have hn := step_nil leaf
      rw [own_step k kind leaf hk1 c hc E [] (by simp) (by omega) (by omega), step_bad leaf [] hn, own_end k kind leaf _ [] _ _ (Or.inr ⟨hn, rfl⟩) (fun _ => Or.inr rfl) (by rw [List.length_append]; simp; omega) (by omega)]
      unfold finish parseL
      simp only [if_pos hn]
  | succ d ih =>
    intro k c l E hc hl hE hk
    cases c with
    | zero =>
      have : parseL leaf (d + 1) 0 l E = (E, l, 0) := rfl
      rw [this]
      exact own_end k kind leaf E l _ 0 (Or.inl (by omega)) (fun _ => Or.inl rfl) (by omega) (by omega)
    | succ c =>
      obtain ⟨k, rfl⟩ : ∃ m, k = m + 2 := ⟨k - 2, by omega⟩
      rw [own_step k kind leaf hk1 c hc E l (by omega) (by omega) (by omega), parseL]
      by_cases hn : (stepL leaf l).2.2 = 0
      · have hs := step_less leaf l hn
        rw [if_pos hn, hn]
        exact ih k c _ _ (by omega) (by omega) (by rw [List.length_append, List.length_singleton]; omega) (by omega)
      · rw [if_neg hn, step_bad leaf l hn, own_end k kind leaf _ [] _ _ (Or.inr ⟨hn, rfl⟩) (fun _ => Or.inr rfl) (by rw [List.length_append, List.length_singleton]; omega) (by omega)]
        unfold finish
        simp only [if_pos hn]
/-- What Parse tells. -/
noncomputable def parsed (kind : Int) (l : List UInt8) : Int × List ByteArray × List ByteArray × List Int × Int :=
  if kind = 1 ∨ kind = 2 then (if (scanL 0 0 l).2.2 = 0 then finish kind (kind == 1) (parseL (kind == 1) 900 (scanL 0 0 l).1 (l.drop (scanL 0 0 l).2.1) []) else (0, [], [], [], ((scanL 0 0 l).2.2 : Int))) else (0, [], [], [], 13)
theorem parse_is (k : Nat) (kind : Int) (l : List UInt8) (hl : l.length ≤ 300) (hk : 6000 < k) : node_Parse.f k kind (mkS l) = some (parsed kind l) := by
  obtain ⟨k, rfl⟩ : ∃ m, k = m + 1 := ⟨k - 1, by omega⟩
  have good : kind = 1 ∨ kind = 2 → node_Parse.j0 (k + 1) kind (mkS l) false kind = some (parsed kind l) := fun h => by
    have hN := innum_is k (mkS l) 0 18446744073709551615 (by rw [size_mk]; omega) (by rw [size_mk]; omega)
    have hS := scanL_le l 0 0 (by omega) (by omega)
    rw [lst_mk] at hN
    simp only [node_Parse.j0, varint_Of.f]
    rw [if_neg (by simp), Option.bind_some]
    simp only
    rw [show (18446744073709551615 : Int) = ((18446744073709551615 : Nat) : Int) from rfl, hN, Option.bind_some]
    simp only
    unfold parsed
    rw [if_pos h]
    have e1 : ([] : List ByteArray) = Ks [] := rfl
    have e2 : ([] : List ByteArray) = Vs (kind == 1) [] := by unfold Vs; cases (kind == 1) <;> rfl
    have e3 : ([] : List Int) = Ps (kind == 1) [] := by unfold Ps; cases (kind == 1) <;> rfl
    by_cases h1 : (scanL 0 0 l).2.2 = 0
    · have hr : rNum l 0 18446744073709551615 = ((scanL 0 0 l).1, l.drop (scanL 0 0 l).2.1, 0) := by
        unfold rNum; rw [if_pos rfl, if_pos h1, if_neg (by omega)]
      rw [hr, if_pos h1]
      simp only
      have := own_loop2 kind (kind == 1) (by rw [beq_iff_eq]) 900 k (scanL 0 0 l).1 (l.drop (scanL 0 0 l).2.1) [] hS.1 (by rw [List.length_drop]; omega) (by simp) (by omega)
      rw [← e1, ← e2, ← e3] at this
      exact this
    · have hr : rNum l 0 18446744073709551615 = (0, [], ((scanL 0 0 l).2.2 : Int)) := by
        unfold rNum; rw [if_pos rfl, if_neg h1]
      rw [hr, if_neg h1]
      simp only
      have := own_end k kind (kind == 1) [] [] 0 ((scanL 0 0 l).2.2 : Int) (Or.inl (by omega)) (fun _ => Or.inr rfl) (by simp) (by omega)
      rw [← e1, ← e2, ← e3] at this
      rw [show ((0 : Nat) : Int) = 0 from rfl, this]
      unfold finish
      simp only
      rw [if_pos (by omega)]
  unfold node_Parse.f
  by_cases h1 : kind = 1
  · rw [if_pos h1]; exact good (Or.inl h1)
  · rw [if_neg h1]
    by_cases h2 : kind = 2
    · have : (kind != 2) = false := by rw [h2]; rfl
      rw [this]; exact good (Or.inr h2)
    · have : (kind != 2) = true := by rw [bne_iff_ne]; exact h2
      rw [this]
      simp only [node_Parse.j0]
      unfold parsed
      rw [if_pos trivial, if_neg (by omega)]
end Go.Proofs.Ytlboglbgdjakmaa.PA

-- the document's Parse tells what the plain reading does
namespace Go.Proofs.Ytlboglbgdjakmaa.PA
open Go.RowKit Go.Proofs.YtlboglbgdjakmaaW.PrintWords Go.Proofs.YtlboglbgdjakmaaW.PrintLast Go.Proofs.YtlboglbgdjakmaaW.PrintMore Go.Proofs.Ytlboglbgdjakmaa.VarPlain Go.Proofs.Ytlboglbgdjakmaa.Tools
theorem rText_of (l : List UInt8) (most : Nat) : rText l 0 (most : Int) =
    if (scanL 0 0 l).2.2 = 0 then (if most < (scanL 0 0 l).1 then ([], [], 4) else if (l.length : Int) - ((scanL 0 0 l).2.1 : Int) < ((scanL 0 0 l).1 : Int) then ([], [], 2)
      else ((l.drop (scanL 0 0 l).2.1).take (scanL 0 0 l).1, (l.drop (scanL 0 0 l).2.1).drop (scanL 0 0 l).1, 0)) else ([], [], ((scanL 0 0 l).2.2 : Int)) := by
  have hS := scanL_le l 0 0 (by omega) (by omega)
  unfold rText rNum
  rw [Int.toNat_natCast, if_pos rfl]
  by_cases h1 : (scanL 0 0 l).2.2 = 0
  · rw [if_pos h1, if_pos h1]
    by_cases h2 : most < (scanL 0 0 l).1
    · rw [if_pos h2, if_pos h2]
      rfl
    · rw [if_neg h2, if_neg h2]
      unfold rRaw rFail
      have h20 : ¬ ((2 : Int) = 0) := by omega
      by_cases h3 : (l.length : Int) - ((scanL 0 0 l).2.1 : Int) < ((scanL 0 0 l).1 : Int)
      · have h3' : ((l.drop (scanL 0 0 l).2.1).length : Int) < ((scanL 0 0 l).1 : Int) := by rw [List.length_drop]; omega
        simp only [if_pos h3, if_pos h3', if_neg h20, if_true]
      · have h3' : ¬ ((l.drop (scanL 0 0 l).2.1).length : Int) < ((scanL 0 0 l).1 : Int) := by rw [List.length_drop]; omega
        simp only [if_neg h3, if_neg h3', if_true, Int.toNat_natCast]
  · rw [if_neg h1, if_neg h1]
    unfold rRaw
    have h4 : ¬ (((scanL 0 0 l).2.2 : Int) = 0) := by omega
    simp only [if_neg h4, List.length_nil]
    rw [if_neg (by omega)]
theorem reftxt_is (k : Nat) (l : List UInt8) (most : Nat) (hm : most ≤ 1000) (hl : l.length ≤ 1000) (hk : 3 * l.length + 4 < k) :
    dowserref09_text.f k (mkS l) (most : Int) = some (mkS (rText l 0 (most : Int)).1, mkS (rText l 0 (most : Int)).2.1, (rText l 0 (most : Int)).2.2) := by
  have hS := scanL_le l 0 0 (by omega) (by omega)
  unfold dowserref09_text.f
  rw [head_is k (mkS l) (by rw [size_mk]; omega) (by rw [size_mk]; omega), Option.bind_some, lst_mk, rText_of]
  have hu : IntKind.u64.wrap (most : Int) = (most : Int) := u64_in (by omega) (by omega)
  simp only
  by_cases h1 : (scanL 0 0 l).2.2 = 0
  · rw [if_pos (by omega), if_pos h1, hu]
    by_cases h2 : most < (scanL 0 0 l).1
    · rw [if_pos (by omega), if_pos h2]; rfl
    · rw [if_neg (by omega), if_neg h2, size_mk]
      have w1 : wrap64 ((scanL 0 0 l).1 : Int) = ((scanL 0 0 l).1 : Int) := by unfold wrap64; omega
      have w2 : wrap64 ((l.length : Int) - ((scanL 0 0 l).2.1 : Int)) = (l.length : Int) - ((scanL 0 0 l).2.1 : Int) := by unfold wrap64; omega
      have w3 : wrap64 (((scanL 0 0 l).2.1 : Int) + ((scanL 0 0 l).1 : Int)) = (((scanL 0 0 l).2.1 + (scanL 0 0 l).1 : Nat) : Int) := by unfold wrap64; omega
      rw [w1, w2, w3]
      by_cases h3 : (l.length : Int) - ((scanL 0 0 l).2.1 : Int) < ((scanL 0 0 l).1 : Int)
      · rw [if_pos (by omega), if_pos h3]; rfl
      · rw [if_neg (by omega), if_neg h3, if_pos (by omega), if_pos (by omega), if_pos (by omega), if_pos (by omega), Int.toNat_natCast, Int.toNat_natCast]
        have ex : (mkS l).extract ((scanL 0 0 l).2.1 + (scanL 0 0 l).1) l.length = mkS (l.drop ((scanL 0 0 l).2.1 + (scanL 0 0 l).1)) := by
          rw [show l.length = (mkS l).size from (size_mk l).symm, extract_from, lst_mk]
        have ey : (mkS l).extract (scanL 0 0 l).2.1 ((scanL 0 0 l).2.1 + (scanL 0 0 l).1) = mkS ((l.drop (scanL 0 0 l).2.1).take (scanL 0 0 l).1) := by
          rw [← mk_lst (ByteArray.extract _ _ _), lst_extract, lst_mk, List.drop_take, Nat.add_sub_cancel_left]
        rw [ex, ey, List.drop_drop]
  · rw [if_neg (by omega), if_neg h1]; rfl
theorem ref_end (k : Nat) (kind : Int) (leaf : Bool) (E : Es) (l : List UInt8) (x i : Int) (h : ¬ i < x) (hE : E.length ≤ 1000) (hk : 4000 < k) :
    dowserref09_Parse.l0 k kind (mkS l) x i kind (Ks E) (Vs leaf E) (Ps leaf E) = some (finish kind leaf (E, l, 0)) := by
  obtain ⟨k, rfl⟩ : ∃ m, k = m + 1 := ⟨k - 1, by omega⟩
  have hv := vs_len leaf E
  have hp := ps_len leaf E
  have hc := refcheck_is k kind (Ks E) (Vs leaf E) (Ps leaf E) (by rw [ks_len]; omega) (by omega) (by omega) (by rw [ks_len]; omega)
  simp only [dowserref09_Parse.l0]
  rw [if_neg h, toList_lst, lst_mk, hc]
  simp only [Option.bind_some]
  unfold finish
  simp only
  by_cases hl : l = []
  · subst hl
    by_cases g : Good kind (Ks E) (Vs leaf E) (Ps leaf E)
    · simp only [pb_true g, if_pos g, if_true, ne_eq, not_true_eq_false, if_false]
    · simp only [pb_false g, if_neg g, if_true, ne_eq, not_true_eq_false, if_false, Bool.false_eq_true]
  · simp only [ne_eq, not_true_eq_false, if_false, hl, not_false_eq_true, if_true]
theorem ref_step (k : Nat) (kind : Int) (leaf : Bool) (hk1 : leaf = true ↔ kind = 1) (x i : Nat) (hx : x < 18446744073709551616) (hi : i < x) (E : Es) (l : List UInt8) (hl : l.length ≤ 1000) (hE : E.length ≤ 1000) (hk : 4000 < k) :
    ∃ k', k' ≥ k ∧ k' ≤ k + 1 ∧ dowserref09_Parse.l0 (k + 2) kind (mkS l) (x : Int) (i : Int) kind (Ks E) (Vs leaf E) (Ps leaf E) =
      if (stepL leaf l).2.2 = 0 then dowserref09_Parse.l0 k' kind (mkS (stepL leaf l).2.1) (x : Int) ((i + 1 : Nat) : Int) kind (Ks (E ++ [(stepL leaf l).1])) (Vs leaf (E ++ [(stepL leaf l).1])) (Ps leaf (E ++ [(stepL leaf l).1]))
      else some (0, [], [], [], (stepL leaf l).2.2) := by
  have h0 : (i : Int) < (x : Int) := by omega
  have ht := reftxt_is (k + 1) l 16 (by omega) hl (by omega)
  have hv := vs_len leaf E
  have hp := ps_len leaf E
  have hu : IntKind.u64.wrap ((i : Int) + 1) = ((i + 1 : Nat) : Int) := by rw [show (i : Int) + 1 = ((i + 1 : Nat) : Int) by omega]; exact u64_in (by omega) (by omega)
  rw [show ((16 : Nat) : Int) = 16 from rfl] at ht
  have hlen : (rText l 0 16).2.1.length ≤ l.length := by
    by_cases h : (rText l 0 16).2.2 = 0
    · have := congrArg List.length (rText_head l 16 h).1; rw [List.length_append] at this; omega
    · rw [rText_bad l 16 h]; simp
  have L : dowserref09_Parse.l0 (k + 2) kind (mkS l) (x : Int) (i : Int) kind (Ks E) (Vs leaf E) (Ps leaf E) = (if (rText l 0 16).2.2 = 0 then (if kind = 1 then ((dowserref09_text.f (k + 1) (mkS (rText l 0 16).2.1) 32).bind fun bt264 => (if bt264.2.2 = 0 then (if (Vs leaf E).length < 8796093022208 then (dowserref09_Parse.l0 (k + 1) kind bt264.2.1 (x : Int) ((i + 1 : Nat) : Int) kind (Ks E ++ [mkS (rText l 0 16).1]) (Vs leaf E ++ [bt264.1]) (Ps leaf E)) else (none)) else (some (0, ([] : List ByteArray), ([] : List ByteArray), ([] : List Int), bt264.2.2)))) else ((dowserref01_Head.f (k + 1) (mkS (rText l 0 16).2.1)).bind fun bt270 => (if bt270.2.2 = 0 then (dowserref09_Parse.j2 (k + 1) kind (x : Int) (i : Int) (mkS (rText l 0 16).2.1) bt270.1 bt270.2.1 bt270.2.2 (decide (bt270.1 > 2147483647)) kind (Ks E ++ [mkS (rText l 0 16).1]) (Vs leaf E) (Ps leaf E)) else (dowserref09_Parse.j2 (k + 1) kind (x : Int) (i : Int) (mkS (rText l 0 16).2.1) bt270.1 bt270.2.1 bt270.2.2 false kind (Ks E ++ [mkS (rText l 0 16).1]) (Vs leaf E) (Ps leaf E))))) else (some (0, ([] : List ByteArray), ([] : List ByteArray), ([] : List Int), (rText l 0 16).2.2))) := by
    simp only [dowserref09_Parse.l0]
    rw [if_pos h0, ht, Option.bind_some]
    simp only
    rw [if_pos (show (Ks E).length < 8796093022208 by rw [ks_len]; omega), Option.bind_some, hu]
  rw [L]
  by_cases h1 : (rText l 0 16).2.2 = 0
  · rw [if_pos h1]
    rcases leaf_kind hk1 with ⟨rfl, rfl⟩ | ⟨rfl, hne⟩
    · refine ⟨k + 1, by omega, Nat.le_refl _, ?_⟩
      have ht2 := reftxt_is (k + 1) (rText l 0 16).2.1 32 (by omega) (by omega) (by omega)
      rw [show ((32 : Nat) : Int) = 32 from rfl] at ht2
      rw [if_pos rfl, ht2, Option.bind_some]
      simp only
      rw [if_pos (show (Vs true E).length < 8796093022208 by omega), ks_add, vs_add]
      unfold stepL
      simp only [if_true, h1]
      rfl
    · refine ⟨k, Nat.le_refl _, by omega, ?_⟩
      have hS := scanL_le (rText l 0 16).2.1 0 0 (by omega) (by omega)
      rw [if_neg hne, head_is (k + 1) _ (by rw [size_mk]; omega) (by rw [size_mk]; omega), Option.bind_some, lst_mk]
      unfold stepL
      simp only [Bool.false_eq_true, if_false, h1]
      unfold rNum
      simp only [if_true]
      rw [ks_add, ps_add]
      generalize hR : scanL 0 0 (rText l 0 16).2.1 = R at hS ⊢
      by_cases c1 : R.2.2 = 0
      · rw [if_pos (by omega), if_pos c1]
        simp only [dowserref09_Parse.j2]
        by_cases c2 : 2147483647 < R.1
        · have c3 : decide ((R.1 : Int) > 2147483647) = true := decide_eq_true (by omega)
          rw [c3, if_pos rfl, if_pos c2]
          rfl
        · have c3 : decide ((R.1 : Int) > 2147483647) = false := decide_eq_false (by omega)
          have hw : wrap64 (R.1 : Int) = (R.1 : Int) := by unfold wrap64; omega
          rw [c3, if_neg (by simp), if_neg c2, if_pos (by omega), if_pos (by omega), if_pos (by omega), if_pos (by rw [size_mk]; omega), hw, hu, Int.toNat_natCast, extract_from, lst_mk]
          rfl
      · have c4 : ¬ ((R.2.2 : Int) = 0) := by omega
        rw [if_neg c4, if_neg c1]
        simp only [dowserref09_Parse.j2]
        rw [if_neg (by simp), if_neg c4]
        simp only [if_neg c4]
  · refine ⟨k, Nat.le_refl _, by omega, ?_⟩
    rw [if_neg h1]
    have e : (stepL leaf l).2.2 = (rText l 0 16).2.2 := by
      have e1 := rText_bad l 16 h1
      unfold stepL
      cases leaf
      · simp only [Bool.false_eq_true, if_false]; rw [rNum_err _ _ _ h1]
      · simp only [if_true]; rw [e1, rText_err _ _ h1]
    rw [e, if_neg h1]
theorem ref_loop (kind : Int) (leaf : Bool) (hk1 : leaf = true ↔ kind = 1) (d : Nat) : ∀ (k c x i : Nat) (l : List UInt8) (E : Es), x < 18446744073709551616 → i + c = x → l.length ≤ d → E.length + d < 1000 → 2 * d + 4005 < k →
    dowserref09_Parse.l0 k kind (mkS l) (x : Int) (i : Int) kind (Ks E) (Vs leaf E) (Ps leaf E) = some (finish kind leaf (parseL leaf d c l E)) := by
  induction d with
  | zero =>
    intro k c x i l E hx hi hl hE hk
    obtain rfl : l = [] := List.length_eq_zero_iff.1 (by omega)
    cases c with
    | zero => exact ref_end k kind leaf E [] _ _ (by omega) (by omega) (by omega)
    | succ c =>
      obtain ⟨k, rfl⟩ : ∃ m, k = m + 2 := ⟨k - 2, by omega⟩
      have hn := step_nil leaf
      obtain ⟨k', _, _, e⟩ := ref_step k kind leaf hk1 x i hx (by omega) E [] (by simp) (by omega) (by omega)
      rw [e, if_neg hn]
      unfold finish parseL
      simp only [if_pos hn]
  | succ d ih =>
    intro k c x i l E hx hi hl hE hk
    cases c with
    | zero => exact ref_end k kind leaf E l _ _ (by omega) (by omega) (by omega)
    | succ c =>
      obtain ⟨k, rfl⟩ : ∃ m, k = m + 2 := ⟨k - 2, by omega⟩
      obtain ⟨k', hk', _, e⟩ := ref_step k kind leaf hk1 x i hx (by omega) E l (by omega) (by omega) (by omega)
      rw [e, parseL]
      by_cases hn : (stepL leaf l).2.2 = 0
      · have hs := step_less leaf l hn
        rw [if_pos hn, if_pos hn]
        exact ih k' c x (i + 1) _ _ hx (by omega) (by omega) (by rw [List.length_append, List.length_singleton]; omega) (by omega)
      · rw [if_neg hn, if_neg hn]
        unfold finish
        simp only [if_pos hn]
theorem refparse_is (k : Nat) (kind : Int) (l : List UInt8) (hl : l.length ≤ 300) (hk : 6010 < k) : dowserref09_Parse.f k kind (mkS l) = some (parsed kind l) := by
  obtain ⟨k, rfl⟩ : ∃ m, k = m + 1 := ⟨k - 1, by omega⟩
  have good : kind = 1 ∨ kind = 2 → dowserref09_Parse.j0 (k + 1) kind (mkS l) false = some (parsed kind l) := fun h => by
    have hS := scanL_le l 0 0 (by omega) (by omega)
    simp only [dowserref09_Parse.j0]
    rw [if_neg (by simp), head_is k (mkS l) (by rw [size_mk]; omega) (by rw [size_mk]; omega), Option.bind_some, lst_mk]
    simp only
    unfold parsed
    rw [if_pos h]
    have e1 : ([] : List ByteArray) = Ks [] := rfl
    have e2 : ([] : List ByteArray) = Vs (kind == 1) [] := by unfold Vs; cases (kind == 1) <;> rfl
    have e3 : ([] : List Int) = Ps (kind == 1) [] := by unfold Ps; cases (kind == 1) <;> rfl
    by_cases h1 : (scanL 0 0 l).2.2 = 0
    · rw [if_pos (by omega), if_pos h1, if_pos (by omega), if_pos (by rw [size_mk]; omega), Int.toNat_natCast, extract_from, lst_mk]
      have := ref_loop kind (kind == 1) (by rw [beq_iff_eq]) 900 k (scanL 0 0 l).1 (scanL 0 0 l).1 0 (l.drop (scanL 0 0 l).2.1) [] hS.1 (by omega) (by rw [List.length_drop]; omega) (by simp) (by omega)
      rw [← e1, ← e2, ← e3] at this
      exact this
    · rw [if_neg (by omega), if_neg h1]
  unfold dowserref09_Parse.f
  by_cases h1 : kind = 1
  · rw [if_pos h1]; exact good (Or.inl h1)
  · rw [if_neg h1]
    by_cases h2 : kind = 2
    · have : (kind != 2) = false := by rw [h2]; rfl
      rw [this]; exact good (Or.inr h2)
    · have : (kind != 2) = true := by rw [bne_iff_ne]; exact h2
      rw [this]
      simp only [dowserref09_Parse.j0]
      unfold parsed
      rw [if_pos trivial, if_neg (by omega)]
end Go.Proofs.Ytlboglbgdjakmaa.PA

-- a node's bytes
namespace Go.Proofs.Ytlboglbgdjakmaa.PA
open Go.RowKit Go.Proofs.YtlboglbgdjakmaaW.PrintWords Go.Proofs.YtlboglbgdjakmaaW.PrintLast Go.Proofs.YtlboglbgdjakmaaW.PrintMore Go.Proofs.Ytlboglbgdjakmaa.VarPlain Go.Proofs.Ytlboglbgdjakmaa.Tools
theorem rdOf_map {α : Type} (f : α → ByteArray) (E : List α) (i : Nat) (h : i < E.length) : rdOf ByteArray.empty (E.map f) (i : Int) = f E[i] := by
  unfold rdOf; rw [Int.toNat_natCast, List.getD_eq_getElem?_getD, List.getElem?_map, List.getElem?_eq_getElem h]; rfl
theorem rd_map {α : Type} (f : α → Int) (E : List α) (i : Nat) (h : i < E.length) : rd (E.map f) (i : Int) = f E[i] := by
  unfold rd; rw [Int.toNat_natCast, List.getD_eq_getElem?_getD, List.getElem?_map, List.getElem?_eq_getElem h]; rfl
theorem encT_len (l : List UInt8) (h : l.length ≤ 1000) : (encT l).length ≤ 1010 := by
  unfold encT; rw [List.length_append]; have := enc_len_u64 (x := l.length) (by omega); omega
theorem entL_len (leaf : Bool) (x : ByteArray × ByteArray × Int) (h : Small x) : (entL leaf x).length ≤ 2020 ∧ 0 < (entL leaf x).length := by
  obtain ⟨h1, h2, h3, h4⟩ := h
  rw [size_lst] at h1 h2
  unfold entL
  have a := encT_len (lst x.1) (by omega)
  have b := encT_len (lst x.2.1) (by omega)
  have c := enc_len_u64 (x := x.2.2.toNat) (by omega)
  have p : 0 < (encT (lst x.1)).length := by unfold encT; rw [List.length_append]; have := enc_len_pos (lst x.1).length; omega
  rw [List.length_append]
  cases leaf
  · simp only [Bool.false_eq_true, if_false]; omega
  · simp only [if_true]; omega
theorem entry_is (k : Nat) (kind : Int) (leaf : Bool) (hk1 : leaf = true ↔ kind = 1) (E : Es) (i : Nat) (hi : i < E.length) (hs : Small E[i]) (hk : 10 < k) :
    node_Node_entry.f k kind (Ks E) (Vs leaf E) (Ps leaf E) (i : Int) = some (mkS (entL leaf E[i])) := by
  have hl := entL_len leaf E[i] hs
  obtain ⟨h1, h2, h3, h4⟩ := hs
  have h1' := h1; have h2' := h2
  rw [size_lst] at h1' h2'
  have e1 : rdOf ByteArray.empty (Ks E) (i : Int) = E[i].1 := rdOf_map _ E i hi
  have t1 := text_is k E[i].1 (by omega) hk
  have L1 := encT_len (lst E[i].1) (by omega)
  have L2 := encT_len (lst E[i].2.1) (by omega)
  have L3 := enc_len_u64 (x := E[i].2.2.toNat) (by omega)
  have c1 : (i : Int) < ((Ks E).length : Int) := by rw [ks_len]; omega
  unfold node_Node_entry.f
  rcases leaf_kind hk1 with ⟨rfl, rfl⟩ | ⟨rfl, hne⟩
  · have e2 : rdOf ByteArray.empty (Vs true E) (i : Int) = E[i].2.1 := rdOf_map _ E i hi
    have c2 : (i : Int) < ((Vs true E).length : Int) := by unfold Vs; rw [if_pos rfl, List.length_map]; omega
    rw [if_pos rfl, if_pos (Int.natCast_nonneg _), if_pos c1, e1, t1, Option.bind_some, if_pos c2, e2, text_is k E[i].2.1 (by omega) hk, Option.bind_some]
    rw [if_pos (by rw [size_mk, size_mk]; omega), append_mk]
    rfl
  · have e2 : rd (Ps false E) (i : Int) = E[i].2.2 := rd_map _ E i hi
    have c2 : (i : Int) < ((Ps false E).length : Int) := by unfold Ps; rw [if_neg (by simp), List.length_map]; omega
    have hn : IntKind.u64.wrap E[i].2.2 = ((E[i].2.2.toNat : Nat) : Int) := by rw [u64_in h3 (by omega)]; omega
    rw [if_neg hne, if_pos (Int.natCast_nonneg _), if_pos c1, e1, t1, Option.bind_some, if_pos c2, e2, hn, num_is k E[i].2.2.toNat (by omega) hk, Option.bind_some]
    rw [if_pos (by rw [size_mk, size_mk]; omega), append_mk]
    rfl
theorem pack_loop (kind : Int) (leaf : Bool) (hk1 : leaf = true ↔ kind = 1) (E : Es) (hE : E.length ≤ 1000) (hs : ∀ x ∈ E, Small x) (d : Nat) : ∀ (k i : Nat) (acc : List UInt8), E.length - i = d → i ≤ E.length → acc.length ≤ 10 + 2020 * i → d + 20 < k →
    node_Node_Pack.l0 k kind (Ks E) (Vs leaf E) (Ps leaf E) i acc = some (mkS (acc ++ (E.drop i).flatMap (entL leaf))) := by
  induction d with
  | zero =>
    intro k i acc hd hi ha hk
    obtain ⟨k, rfl⟩ : ∃ m, k = m + 1 := ⟨k - 1, by omega⟩
    simp only [node_Node_Pack.l0]
    rw [if_neg (by rw [ks_len]; omega), List.drop_eq_nil_of_le (by omega), List.flatMap_nil, List.append_nil]
    rfl
  | succ d ih =>
    intro k i acc hd hi ha hk
    obtain ⟨k, rfl⟩ : ∃ m, k = m + 1 := ⟨k - 1, by omega⟩
    have hlt : i < E.length := by omega
    have hl := entL_len leaf E[i] (hs _ (List.getElem_mem hlt))
    simp only [node_Node_Pack.l0]
    rw [if_pos (by rw [ks_len]; omega), entry_is k kind leaf hk1 E i hlt (hs _ (List.getElem_mem hlt)) (by omega), Option.bind_some, if_pos (by rw [size_mk]; omega)]
    have : (mkS (entL leaf E[i])).data.toList = entL leaf E[i] := rfl
    rw [this, ih k (i + 1) _ (by omega) (by omega) (by rw [List.length_append]; omega) (by omega), List.drop_eq_getElem_cons hlt, List.flatMap_cons, List.append_assoc]
theorem pack_is (k : Nat) (kind : Int) (leaf : Bool) (hk1 : leaf = true ↔ kind = 1) (E : Es) (hE : E.length ≤ 1000) (hs : ∀ x ∈ E, Small x) (hk : 1100 < k) :
    node_Node_Pack.f k kind (Ks E) (Vs leaf E) (Ps leaf E) = some (mkS (enc E.length ++ E.flatMap (entL leaf))) := by
  unfold node_Node_Pack.f
  have hl := enc_len_u64 (x := E.length) (by omega)
  rw [ks_len, if_pos (by omega), num_is k E.length (by omega) (by omega), Option.bind_some, if_pos (by rw [size_mk]; omega)]
  have : (mkS (enc E.length)).data.toList = enc E.length := rfl
  rw [this, pack_loop kind leaf hk1 E hE hs E.length k 0 _ (by omega) (by omega) (by omega) (by omega), List.drop_zero]
/-! And back. -/
theorem parse_back (leaf : Bool) (d : Nat) : ∀ (c : Nat) (l : List UInt8) (E : Es), l.length ≤ d → (parseL leaf d c l E).2.2 = 0 →
    ∃ E2, (parseL leaf d c l E).1 = E ++ E2 ∧ E2.length = c ∧ l = E2.flatMap (entL leaf) ++ (parseL leaf d c l E).2.1 ∧ ∀ x ∈ E2, Small x := by
  induction d with
  | zero =>
    intro c l E hl h
    cases c with
    | zero => exact ⟨[], by rw [parseL]; simp, rfl, by rw [parseL]; rfl, by simp⟩
    | succ c =>
      obtain rfl : l = [] := List.length_eq_zero_iff.1 (by omega)
      rw [parseL] at h
      exact absurd h (step_nil leaf)
  | succ d ih =>
    intro c l E hl h
    cases c with
    | zero => exact ⟨[], by rw [parseL]; simp, rfl, by rw [parseL]; rfl, by simp⟩
    | succ c =>
      rw [parseL] at h ⊢
      by_cases hn : (stepL leaf l).2.2 = 0
      · rw [if_pos hn] at h ⊢
        obtain ⟨s1, _, s3⟩ := step_good leaf l hn
        have hs := step_less leaf l hn
        obtain ⟨E2, a1, a2, a3, a4⟩ := ih c _ _ (by omega) h
        refine ⟨(stepL leaf l).1 :: E2, ?_, by rw [List.length_cons, a2], ?_, ?_⟩
        · rw [a1, List.append_assoc]; rfl
        · rw [List.flatMap_cons, List.append_assoc, ← a3]; exact s1
        · intro x hx
          rcases List.mem_cons.1 hx with rfl | hx
          · exact s3
          · exact a4 x hx
      · rw [if_neg hn] at h; exact absurd h hn
theorem flat_len (leaf : Bool) (E : Es) (hs : ∀ x ∈ E, Small x) : E.length ≤ (E.flatMap (entL leaf)).length ∧ (E.flatMap (entL leaf)).length ≤ 2020 * E.length := by
  induction E with
  | nil => simp
  | cons x E ih =>
    have := ih (fun y hy => hs y (List.mem_cons_of_mem _ hy))
    have h2 := entL_len leaf x (hs x List.mem_cons_self)
    rw [List.flatMap_cons, List.length_append, List.length_cons]
    omega
theorem parsed_ok (kind : Int) (l : List UInt8) (hl : l.length ≤ 300) (h : (parsed kind l).2.2.2.2 = 0) :
    ∃ leaf E, (leaf = true ↔ kind = 1) ∧ parsed kind l = (kind, Ks E, Vs leaf E, Ps leaf E, 0) ∧ l = enc E.length ++ E.flatMap (entL leaf) ∧ (∀ x ∈ E, Small x) ∧ E.length ≤ 1000 ∧ Good kind (Ks E) (Vs leaf E) (Ps leaf E) := by
  unfold parsed at h ⊢
  by_cases hk : kind = 1 ∨ kind = 2
  · rw [if_pos hk] at h ⊢
    by_cases hs : (scanL 0 0 l).2.2 = 0
    · rw [if_pos hs] at h ⊢
      unfold finish at h ⊢
      generalize hR : parseL (kind == 1) 900 (scanL 0 0 l).1 (l.drop (scanL 0 0 l).2.1) [] = R at h ⊢
      by_cases h1 : R.2.2 = 0
      · rw [if_neg (by simp [h1])] at h ⊢
        by_cases h2 : R.2.1 = []
        · rw [if_neg (by simp [h2])] at h ⊢
          by_cases h3 : Good kind (Ks R.1) (Vs (kind == 1) R.1) (Ps (kind == 1) R.1)
          · rw [if_pos h3] at h ⊢
            obtain ⟨E2, a1, a2, a3, a4⟩ := parse_back (kind == 1) 900 (scanL 0 0 l).1 (l.drop (scanL 0 0 l).2.1) [] (by rw [List.length_drop]; omega) (by rw [hR]; exact h1)
            rw [hR, List.nil_append] at a1
            rw [hR, h2, List.append_nil] at a3
            obtain ⟨rest, b1, b2⟩ := scanL_head l hs
            have b3 : l.drop (scanL 0 0 l).2.1 = rest := by
              rw [b2]; exact (congrArg (List.drop (enc (scanL 0 0 l).1).length) b1).trans List.drop_left
            have hf := (flat_len (kind == 1) E2 a4).1
            rw [← a3, List.length_drop] at hf
            refine ⟨(kind == 1), E2, by rw [beq_iff_eq], by rw [a1], ?_, a4, by omega, by rw [← a1]; exact h3⟩
            rw [a2, ← a3, b3]; exact b1
          · rw [if_neg h3] at h; exact absurd h (by simp)
        · rw [if_pos (by simpa using h2)] at h; exact absurd h (by simp)
      · rw [if_pos (by simpa using h1)] at h; exact absurd h h1
    · rw [if_neg hs] at h; simp only at h; omega
  · rw [if_neg hk] at h; exact absurd h (by simp)
/-! Bytes that were made are read. -/
def Canon (leaf : Bool) (x : ByteArray × ByteArray × Int) : Prop := if leaf then x.2.2 = 0 else x.2.1 = mkS []
theorem step_made (leaf : Bool) (x : ByteArray × ByteArray × Int) (hs : Small x) (hc : Canon leaf x) (rest : List UInt8) : stepL leaf (entL leaf x ++ rest) = (x, rest, 0) := by
  obtain ⟨h1, h2, h3, h4⟩ := hs
  rw [size_lst] at h1 h2
  unfold stepL entL
  obtain ⟨a, b, p⟩ := x
  simp only at h1 h2 h3 h4 hc ⊢
  unfold Canon at hc
  rw [List.append_assoc, rText_enc (lst a) _ 16 (by omega) (by omega)]
  cases leaf
  · simp only [Bool.false_eq_true, if_false] at hc ⊢
    rw [rNum_enc p.toNat rest 2147483647 (by omega) (by omega)]
    simp only [mk_lst]
    rw [hc, Int.toNat_of_nonneg h3]
  · simp only [if_true] at hc ⊢
    rw [rText_enc (lst b) _ 32 (by omega) (by omega)]
    simp only [mk_lst]
    rw [hc]
theorem parse_made (leaf : Bool) (E : Es) : ∀ (d : Nat) (acc : Es) (rest : List UInt8), (∀ x ∈ E, Small x ∧ Canon leaf x) → E.length ≤ d → parseL leaf d E.length (E.flatMap (entL leaf) ++ rest) acc = (acc ++ E, rest, 0) := by
  induction E with
  | nil => intro d acc rest _ _; rw [List.length_nil, parseL]; simp
  | cons x E ih =>
    intro d acc rest hs hd
    rw [List.length_cons] at hd
    obtain ⟨d, rfl⟩ : ∃ m, d = m + 1 := ⟨d - 1, by omega⟩
    have hx := hs x List.mem_cons_self
    rw [List.length_cons, parseL, List.flatMap_cons, List.append_assoc, step_made leaf x hx.1 hx.2, if_pos rfl, ih d _ _ (fun y hy => hs y (List.mem_cons_of_mem _ hy)) (by omega), List.append_assoc]
    rfl
theorem parsed_made (kind : Int) (leaf : Bool) (hk1 : leaf = true ↔ kind = 1) (E : Es) (hs : ∀ x ∈ E, Small x ∧ Canon leaf x) (hE : E.length ≤ 900) (hg : Good kind (Ks E) (Vs leaf E) (Ps leaf E)) :
    parsed kind (enc E.length ++ E.flatMap (entL leaf)) = (kind, Ks E, Vs leaf E, Ps leaf E, 0) := by
  have hk : kind = 1 ∨ kind = 2 := by
    have := hg.1; unfold Shape at this; omega
  have hb : (kind == 1) = leaf := by rw [Bool.eq_iff_iff, beq_iff_eq]; exact hk1.symm
  unfold parsed
  rw [if_pos hk, scan_num E.length _ (by omega)]
  simp only [if_true]
  have := parse_made leaf E 900 [] [] hs hE
  rw [List.append_nil, List.nil_append] at this
  rw [List.drop_left, hb, this]
  unfold finish
  simp only [ne_eq, not_true_eq_false, if_false, if_pos hg]
end Go.Proofs.Ytlboglbgdjakmaa.PA

-- a node is the same as itself
namespace Go.Proofs.Ytlboglbgdjakmaa.PA
open Go.RowKit Go.Proofs.YtlboglbgdjakmaaW.PrintWords Go.Proofs.YtlboglbgdjakmaaW.PrintLast Go.Proofs.YtlboglbgdjakmaaW.PrintMore Go.Proofs.Ytlboglbgdjakmaa.VarPlain Go.Proofs.Ytlboglbgdjakmaa.Tools
theorem same_l2 (a : Int) (K V : List ByteArray) (P : List Int) (hp : P.length < 2 ^ 62) (d : Nat) : ∀ (k i : Nat), P.length - i = d → d < k →
    dowserlaw09_same.l2 k (P.length : Int) (i : Int) a K V P a K V P = some true := by
  induction d with
  | zero =>
    intro k i hd hk
    obtain ⟨k, rfl⟩ : ∃ m, k = m + 1 := ⟨k - 1, by omega⟩
    simp only [dowserlaw09_same.l2]
    rw [if_neg (by omega)]
  | succ d ih =>
    intro k i hd hk
    obtain ⟨k, rfl⟩ : ∃ m, k = m + 1 := ⟨k - 1, by omega⟩
    have h1 : (i : Int) < (P.length : Int) := by omega
    simp only [dowserlaw09_same.l2]
    rw [if_pos h1, if_pos (Int.natCast_nonneg _), if_pos h1, if_pos h1, if_pos trivial, w_succ (by omega)]
    exact ih k (i + 1) (by omega) (by omega)
theorem same_l1 (a : Int) (K V : List ByteArray) (P : List Int) (hp : P.length < 2 ^ 62) (hv : V.length < 2 ^ 62) (d : Nat) : ∀ (k i : Nat), V.length - i = d → d + P.length + 1 < k →
    dowserlaw09_same.l1 k (V.length : Int) (i : Int) a K V P a K V P = some true := by
  induction d with
  | zero =>
    intro k i hd hk
    obtain ⟨k, rfl⟩ : ∃ m, k = m + 1 := ⟨k - 1, by omega⟩
    simp only [dowserlaw09_same.l1]
    rw [if_neg (by omega)]
    exact same_l2 a K V P hp P.length k 0 (by omega) (by omega)
  | succ d ih =>
    intro k i hd hk
    obtain ⟨k, rfl⟩ : ∃ m, k = m + 1 := ⟨k - 1, by omega⟩
    have h1 : (i : Int) < (V.length : Int) := by omega
    simp only [dowserlaw09_same.l1]
    rw [if_pos h1, if_pos (Int.natCast_nonneg _), if_pos h1, if_pos h1, if_pos trivial, w_succ (by omega)]
    exact ih k (i + 1) (by omega) (by omega)
theorem same_l0 (a : Int) (K V : List ByteArray) (P : List Int) (hp : P.length < 2 ^ 62) (hv : V.length < 2 ^ 62) (hl : K.length < 2 ^ 62) (d : Nat) : ∀ (k i : Nat), K.length - i = d → d + V.length + P.length + 2 < k →
    dowserlaw09_same.l0 k (K.length : Int) (i : Int) a K V P a K V P = some true := by
  induction d with
  | zero =>
    intro k i hd hk
    obtain ⟨k, rfl⟩ : ∃ m, k = m + 1 := ⟨k - 1, by omega⟩
    simp only [dowserlaw09_same.l0]
    rw [if_neg (by omega)]
    exact same_l1 a K V P hp hv V.length k 0 (by omega) (by omega)
  | succ d ih =>
    intro k i hd hk
    obtain ⟨k, rfl⟩ : ∃ m, k = m + 1 := ⟨k - 1, by omega⟩
    have h1 : (i : Int) < (K.length : Int) := by omega
    simp only [dowserlaw09_same.l0]
    rw [if_pos h1, if_pos (Int.natCast_nonneg _), if_pos h1, if_pos h1, if_pos trivial, w_succ (by omega)]
    exact ih k (i + 1) (by omega) (by omega)
theorem same_is (k : Nat) (a : Int) (K V : List ByteArray) (P : List Int) (hl : K.length < 2 ^ 62) (hv : V.length < 2 ^ 62) (hp : P.length < 2 ^ 62) (hk : K.length + V.length + P.length + 5 < k) :
    dowserlaw09_same.f k a K V P a K V P = some true := by
  obtain ⟨k, rfl⟩ : ∃ m, k = m + 1 := ⟨k - 1, by omega⟩
  unfold dowserlaw09_same.f
  have e : ((P.length : Int) != (P.length : Int)) = false := by simp
  rw [if_pos rfl, if_pos rfl, if_pos rfl, e]
  simp only [dowserlaw09_same.j0]
  rw [if_neg (by simp)]
  exact same_l0 a K V P hp hv hl K.length k 0 (by omega) (by omega)
end Go.Proofs.Ytlboglbgdjakmaa.PA

-- the fixed fact of layer 9
namespace Go.Proofs.Ytlboglbgdjakmaa.PA
open Go.RowKit Go.Proofs.YtlboglbgdjakmaaW.PrintWords Go.Proofs.YtlboglbgdjakmaaW.PrintLast Go.Proofs.YtlboglbgdjakmaaW.PrintMore Go.Proofs.Ytlboglbgdjakmaa.VarPlain Go.Proofs.Ytlboglbgdjakmaa.Tools
theorem awake09_is (k : Nat) (hk : 6000 < k) : dowserlaw09_awake.f k = some true := by
  have ha : (⟨#[97]⟩ : ByteArray) = mkS [97] := rfl
  have hx : (⟨#[120]⟩ : ByteArray) = mkS [120] := rfl
  have hk1 : true = true ↔ (1 : Int) = 1 := ⟨fun _ => rfl, fun _ => rfl⟩
  have hs : Small (mkS [97], mkS [120], 0) ∧ Canon true (mkS [97], mkS [120], 0) := ⟨⟨by rw [size_mk]; simp, by rw [size_mk]; simp, by simp, by simp⟩, rfl⟩
  have hs' : ∀ x ∈ ([(mkS [97], mkS [120], 0)] : Es), Small x ∧ Canon true x := fun x hx => by
    rcases List.mem_singleton.1 hx with rfl; exact hs
  have hg : Good 1 (Ks [(mkS [97], mkS [120], 0)]) (Vs true [(mkS [97], mkS [120], 0)]) (Ps true [(mkS [97], mkS [120], 0)]) := by
    have tk : tx (Ks [(mkS [97], mkS [120], 0)]) 0 = mkS [97] := rfl
    have tv : tx (Vs true [(mkS [97], mkS [120], 0)]) 0 = mkS [120] := rfl
    refine ⟨Or.inl ⟨rfl, rfl, rfl⟩, fun j hj => ?_, fun j h1 hj => ?_, fun j hj => ?_, fun j hj => ?_⟩
    · rw [ks_len] at hj
      obtain rfl : j = 0 := by simp at hj; omega
      rw [tk]
      refine ⟨by rw [toList_lst, lst_mk]; simp, by rw [size_mk]; simp⟩
    · rw [ks_len] at hj; simp at hj; omega
    · have := vs_len true [(mkS [97], mkS [120], 0)]
      obtain rfl : j = 0 := by simp at this; omega
      rw [tv]; unfold Val; rw [size_mk]; simp
    · simp [Ps] at hj
  have hp := pack_is k 1 true hk1 [(mkS [97], mkS [120], 0)] (by simp) (fun x hx => (hs' x hx).1) (by omega)
  have hm := parsed_made 1 true hk1 [(mkS [97], mkS [120], 0)] hs' (by simp) hg
  have eb : enc ([(mkS [97], mkS [120], 0)] : Es).length ++ ([(mkS [97], mkS [120], 0)] : Es).flatMap (entL true) = [1, 1, 97, 1, 120] := by
    simp only [List.length_singleton, List.flatMap_cons, List.flatMap_nil, List.append_nil, entL, encT, lst_mk, if_true]
    rw [enc_small (by omega)]; rfl
  rw [eb] at hp hm
  have hq := parse_is k 1 [1, 1, 97, 1, 120] (by simp) hk
  rw [hm] at hq
  unfold dowserlaw09_awake.f
  rw [ha, hx]
  have hp' : node_Node_Pack.f k 1 [mkS [97]] [mkS [120]] [] = some (mkS [1, 1, 97, 1, 120]) := hp
  rw [hp', Option.bind_some, hq, Option.bind_some, if_pos ⟨by rw [toList_lst, lst_mk], rfl, rfl⟩]
end Go.Proofs.Ytlboglbgdjakmaa.PA

namespace Go.Proofs.Ytlboglbgdjakmaa.Pure
open Go.RowKit Go.Proofs.Ytlboglbgdjakmaa.PA Go.Proofs.YtlboglbgdjakmaaW.PrintWords Go.Proofs.YtlboglbgdjakmaaW.PrintLast Go.Proofs.Ytlboglbgdjakmaa.VarPlain
theorem NodeParses : dowserlaw09_NodeParses.Pure := by
  intro a0 a1 _ _
  refine ⟨7000, ?_⟩
  have hcut := cut_is a1 260
  have hl : ((lst a1).take 260).length ≤ 300 := by rw [List.length_take]; omega
  generalize (lst a1).take 260 = l at hcut hl
  unfold dowserlaw09_NodeParses.f
  rw [awake09_is 7000 (by omega), Option.bind_some, if_pos rfl, show (260 : Int) = ((260 : Nat) : Int) from rfl, hcut, Option.bind_some, parse_is 7000 a0 l hl (by omega), Option.bind_some,
    refparse_is 7000 a0 l hl (by omega), Option.bind_some, if_pos rfl]
  by_cases h : (parsed a0 l).2.2.2.2 = 0
  · obtain ⟨leaf, E, hk1, hp, hb, hs, hE, _⟩ := parsed_ok a0 l hl h
    have hv := vs_len leaf E
    have hq := ps_len leaf E
    rw [hp]
    simp only
    rw [same_is 7000 a0 (Ks E) (Vs leaf E) (Ps leaf E) (by rw [ks_len]; omega) (by omega) (by omega) (by rw [ks_len]; omega), Option.bind_some, if_pos rfl, if_pos trivial,
      pack_is 7000 a0 leaf hk1 E hE hs (by omega), Option.bind_some, ← hb]
    simp
  · have hz : (parsed a0 l).1 = 0 ∧ (parsed a0 l).2.1 = [] ∧ (parsed a0 l).2.2.1 = [] ∧ (parsed a0 l).2.2.2.1 = [] := by
      unfold parsed finish at h ⊢
      repeat' split
      all_goals first | exact ⟨rfl, rfl, rfl, rfl⟩ | (exfalso; simp_all; done)
    obtain ⟨z1, z2, z3, z4⟩ := hz
    rw [z1, z2, z3, z4, same_is 7000 0 [] [] [] (by simp) (by simp) (by simp) (by simp), Option.bind_some, if_pos rfl, if_neg h]
end Go.Proofs.Ytlboglbgdjakmaa.Pure

