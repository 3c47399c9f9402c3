-- of any bytes the node: the program's Parse and the document's, over one plain reading
import Derived.Test.YtlboglbgdjakmaaPAx10
import Derived.Test.YtlboglbgdjakmaaVarPlain
import Derived.Test.YtlboglbgdjakmaaTools
import Derived.Test.YtlboglbgdjakmaaVarTxt
import Derived.Test.YtlboglbgdjakmaaNodeCheck
namespace Go.Proofs.Ytlboglbgdjakmaa.PA
open Go.RowKit Go.Proofs.YtlboglbgdjakmaaW.PrintWords Go.Proofs.YtlboglbgdjakmaaW.PrintLast Go.Proofs.YtlboglbgdjakmaaW.PrintMore Go.Proofs.Ytlboglbgdjakmaa.VarPlain Go.Proofs.Ytlboglbgdjakmaa.Tools
/-! Facts of the plain reading. -/
theorem rText_err (e most : Int) (he : e ≠ 0) : rText [] e most = ([], [], e) := by
  unfold rText rNum
  rw [if_neg he]
  unfold rRaw
  rw [if_neg (by simp), if_neg he]
theorem rNum_err (l : List UInt8) (e : Int) (most : Nat) (he : e ≠ 0) : rNum l e most = (0, l, e) := by unfold rNum; rw [if_neg he]
theorem rNum_bad (l : List UInt8) (most : Nat) (h : (rNum l 0 most).2.2 ≠ 0) : rNum l 0 most = (0, [], (rNum l 0 most).2.2) := by
  unfold rNum at h ⊢
  rw [if_pos rfl] at h ⊢
  split
  · split
    · rfl
    · rename_i h1 h2; rw [if_pos h1, if_neg h2] at h; exact absurd rfl h
  · rfl
theorem rNum_head (l : List UInt8) (most : Nat) (h : (rNum l 0 most).2.2 = 0) : l = enc (rNum l 0 most).1 ++ (rNum l 0 most).2.1 ∧ (rNum l 0 most).1 ≤ most := by
  refine ⟨?_, (rNum_lt l 0 most).2.1⟩
  unfold rNum at h ⊢
  rw [if_pos rfl] at h ⊢
  by_cases h1 : (scanL 0 0 l).2.2 = 0
  · rw [if_pos h1] at h ⊢
    by_cases h2 : most < (scanL 0 0 l).1
    · rw [if_pos h2] at h; exact absurd h (by simp)
    · rw [if_neg h2]
      obtain ⟨rest, e1, e2⟩ := scanL_head l h1
      simp only
      have : l.drop (scanL 0 0 l).2.1 = rest := by
        rw [e2]
        exact (congrArg (List.drop (enc (scanL 0 0 l).1).length) e1).trans List.drop_left
      rw [this]; exact e1
  · rw [if_neg h1] at h; simp only at h; omega
theorem rText_bad (l : List UInt8) (most : Int) (h : (rText l 0 most).2.2 ≠ 0) : rText l 0 most = ([], [], (rText l 0 most).2.2) := by
  by_cases h1 : (rNum l 0 most.toNat).2.2 = 0
  · unfold rText at h ⊢
    rw [h1] at h ⊢
    unfold rRaw rFail at h ⊢
    have h20 : ¬ ((2 : Int) = 0) := by omega
    by_cases c : ((rNum l 0 most.toNat).2.1.length : Int) < ((rNum l 0 most.toNat).1 : Int)
    · simp only [if_pos c, if_neg h20, if_true]
    · simp only [if_neg c, if_true] at h; exact absurd rfl h
  · have := rNum_bad l most.toNat h1
    unfold rText
    rw [this]
    unfold rRaw
    rw [if_neg (by simp), if_neg h1]
theorem rText_head (l : List UInt8) (most : Int) (h : (rText l 0 most).2.2 = 0) : l = encT (rText l 0 most).1 ++ (rText l 0 most).2.1 ∧ (rText l 0 most).1.length ≤ most.toNat := by
  by_cases h1 : (rNum l 0 most.toNat).2.2 = 0
  · obtain ⟨e1, e2⟩ := rNum_head l most.toNat h1
    unfold rText at h ⊢
    rw [h1] at h ⊢
    unfold rRaw rFail at h ⊢
    by_cases c : ((rNum l 0 most.toNat).2.1.length : Int) < ((rNum l 0 most.toNat).1 : Int)
    · rw [if_pos c, if_pos rfl, if_neg (by omega)] at h; exact absurd h (by simp)
    · rw [if_neg c, if_pos rfl]
      simp only [Int.toNat_natCast]
      unfold encT
      have : (List.take (rNum l 0 most.toNat).1 (rNum l 0 most.toNat).2.1).length = (rNum l 0 most.toNat).1 := by rw [List.length_take]; omega
      rw [this]
      refine ⟨?_, e2⟩
      rw [List.append_assoc, List.take_append_drop]
      exact e1
  · have := rNum_bad l most.toNat h1
    unfold rText at h
    rw [this] at h
    unfold rRaw at h
    rw [if_neg (by simp), if_neg h1] at h
    exact absurd h h1
/-- One entry's reading: its key, value, page; what is left; the error. -/
def stepL (leaf : Bool) (l : List UInt8) : (ByteArray × ByteArray × Int) × List UInt8 × Int :=
  if leaf then ((mkS (rText l 0 16).1, mkS (rText (rText l 0 16).2.1 (rText l 0 16).2.2 32).1, 0), (rText (rText l 0 16).2.1 (rText l 0 16).2.2 32).2)
  else ((mkS (rText l 0 16).1, mkS [], ((rNum (rText l 0 16).2.1 (rText l 0 16).2.2 2147483647).1 : Int)), (rNum (rText l 0 16).2.1 (rText l 0 16).2.2 2147483647).2)
def entL (leaf : Bool) (x : ByteArray × ByteArray × Int) : List UInt8 := encT (lst x.1) ++ (if leaf then encT (lst x.2.1) else enc x.2.2.toNat)
def Small (x : ByteArray × ByteArray × Int) : Prop := x.1.size ≤ 16 ∧ x.2.1.size ≤ 32 ∧ 0 ≤ x.2.2 ∧ x.2.2 ≤ 2147483647
theorem step_bad (leaf : Bool) (l : List UInt8) (h : (stepL leaf l).2.2 ≠ 0) : (stepL leaf l).2.1 = [] := by
  unfold stepL at h ⊢
  by_cases h1 : (rText l 0 16).2.2 = 0
  · cases leaf
    · simp only [Bool.false_eq_true, if_false, h1] at h ⊢
      rw [rNum_bad _ _ h]
    · simp only [if_true, h1] at h ⊢
      rw [rText_bad _ _ h]
  · have e := rText_bad l 16 h1
    cases leaf
    · simp only [Bool.false_eq_true, if_false] at h ⊢
      rw [rNum_err _ _ _ h1, e]
    · simp only [if_true] at h ⊢
      rw [e, rText_err _ _ h1]
theorem step_good (leaf : Bool) (l : List UInt8) (h : (stepL leaf l).2.2 = 0) : l = entL leaf (stepL leaf l).1 ++ (stepL leaf l).2.1 ∧ (rText l 0 16).2.2 = 0 ∧ Small (stepL leaf l).1 := by
  have h1 : (rText l 0 16).2.2 = 0 := Classical.byContradiction fun h1 => by
    have e := rText_bad l 16 h1
    unfold stepL at h
    cases leaf
    · simp only [Bool.false_eq_true, if_false] at h
      rw [rNum_err _ _ _ h1] at h
      exact h1 h
    · simp only [if_true] at h
      rw [e, rText_err _ _ h1] at h
      exact h1 h
  obtain ⟨e1, e2⟩ := rText_head l 16 h1
  refine ⟨?_, h1, ?_⟩
  · unfold stepL at h ⊢
    unfold entL
    rw [h1] at h ⊢
    cases leaf
    · simp only [Bool.false_eq_true, if_false, lst_mk, Int.toNat_natCast] at h ⊢
      rw [List.append_assoc, ← (rNum_head _ _ h).1]; exact e1
    · simp only [if_true, lst_mk] at h ⊢
      rw [List.append_assoc, ← (rText_head _ _ h).1]; exact e1
  · unfold stepL at h ⊢
    rw [h1] at h ⊢
    unfold Small
    cases leaf
    · simp only [Bool.false_eq_true, if_false] at h ⊢
      have := (rNum_head _ _ h).2
      rw [size_mk, size_mk]
      exact ⟨e2, by simp, Int.natCast_nonneg _, by omega⟩
    · simp only [if_true] at h ⊢
      have := (rText_head _ _ h).2
      rw [size_mk, size_mk]
      exact ⟨e2, this, by omega, by omega⟩
theorem step_less (leaf : Bool) (l : List UInt8) (h : (stepL leaf l).2.2 = 0) : (stepL leaf l).2.1.length < l.length := by
  have := (step_good leaf l h).1
  have hl := congrArg List.length this
  rw [List.length_append] at hl
  have : 0 < (entL leaf (stepL leaf l).1).length := by
    unfold entL encT; rw [List.length_append, List.length_append]; have := enc_len_pos (lst (stepL leaf l).1.1).length; omega
  omega
abbrev Es := List (ByteArray × ByteArray × Int)
def Ks (E : Es) : List ByteArray := E.map (·.1)
def Vs (leaf : Bool) (E : Es) : List ByteArray := if leaf then E.map (·.2.1) else []
def Ps (leaf : Bool) (E : Es) : List Int := if leaf then [] else E.map (·.2.2)
/-- The entries, of so many, with what is left and the error. -/
def parseL (leaf : Bool) : Nat → Nat → List UInt8 → Es → Es × List UInt8 × Int
  | _, 0, l, E => (E, l, 0)
  | 0, _ + 1, l, E => (E, [], (stepL leaf l).2.2)
  | d + 1, c + 1, l, E => if (stepL leaf l).2.2 = 0 then parseL leaf d c (stepL leaf l).2.1 (E ++ [(stepL leaf l).1]) else (E, [], (stepL leaf l).2.2)
open Classical in
noncomputable def finish (kind : Int) (leaf : Bool) (R : Es × List UInt8 × Int) : Int × List ByteArray × List ByteArray × List Int × Int :=
  if R.2.2 ≠ 0 then (0, [], [], [], R.2.2) else if R.2.1 ≠ [] then (0, [], [], [], 3) else if Good kind (Ks R.1) (Vs leaf R.1) (Ps leaf R.1) then (kind, Ks R.1, Vs leaf R.1, Ps leaf R.1, 0) else (0, [], [], [], 1)
theorem step_nil (leaf : Bool) : (stepL leaf []).2.2 ≠ 0 := fun h => by have := step_less leaf [] h; simp at this
theorem ks_len (E : Es) : (Ks E).length = E.length := by unfold Ks; rw [List.length_map]
theorem vs_len (leaf : Bool) (E : Es) : (Vs leaf E).length ≤ E.length := by unfold Vs; cases leaf <;> simp
theorem ps_len (leaf : Bool) (E : Es) : (Ps leaf E).length ≤ E.length := by unfold Ps; cases leaf <;> simp
/-! The program's Parse. -/
theorem own_end (k : Nat) (kind : Int) (leaf : Bool) (E : Es) (l : List UInt8) (c : Int) (e : Int) (h : c ≤ 0 ∨ e ≠ 0 ∧ l = []) (he : c ≤ 0 → e = 0 ∨ l = []) (hE : E.length ≤ 1000) (hk : 4000 < k) :
    node_Parse.l0 k kind c kind (Ks E) (Vs leaf E) (Ps leaf E) (mkS l) e = some (finish kind leaf (E, l, e)) := by
  obtain ⟨k, rfl⟩ : ∃ m, k = m + 2 := ⟨k - 2, by omega⟩
  have hc := check_is k kind (Ks E) (Vs leaf E) (Ps leaf E) (by rw [ks_len]; omega) (by rw [ks_len]; omega)
  have hj : node_Parse.j2 (k + 1) kind c false kind (Ks E) (Vs leaf E) (Ps leaf E) (mkS l) e = some (finish kind leaf (E, l, e)) := by
    simp only [node_Parse.j2]
    rw [if_neg (by simp), end_is, Option.bind_some, hc, lst_mk]
    simp only [Option.bind_some]
    unfold finish
    simp only
    have hle : e = 0 ∨ l = [] := by
      rcases h with h | h
      · exact he h
      · exact Or.inr h.2
    by_cases hl : l = []
    · subst hl
      rw [if_pos rfl]
      by_cases e0 : e = 0
      · subst e0
        have h10 : ¬ ((1 : Int) = 0) := by omega
        by_cases g : Good kind (Ks E) (Vs leaf E) (Ps leaf E)
        · simp only [if_pos g, if_true, ne_eq, not_true_eq_false, if_false]
        · simp only [if_neg g, if_true, ne_eq, not_true_eq_false, if_false, if_neg h10]
      · rw [if_neg e0, if_pos e0]
    · have e0 : e = 0 := hle.resolve_right hl
      rw [if_neg hl, if_neg (by omega), if_neg (by simp [e0]), if_pos hl]
  simp only [node_Parse.l0]
  by_cases hc : c > 0
  · rw [if_pos hc, err_is, Option.bind_some]
    have h2 : (e == 0) = false := by
      rw [beq_eq_false_iff_ne]; rcases h with h | h
      · omega
      · exact h.1
    rw [h2]; exact hj
  · rw [if_neg hc]; exact hj
theorem ks_add (E : Es) (x : ByteArray × ByteArray × Int) : Ks (E ++ [x]) = Ks E ++ [x.1] := by unfold Ks; rw [List.map_append]; rfl
theorem vs_add (E : Es) (x : ByteArray × ByteArray × Int) : Vs true (E ++ [x]) = Vs true E ++ [x.2.1] := by unfold Vs; rw [if_pos rfl, if_pos rfl, List.map_append]; rfl
theorem ps_add (E : Es) (x : ByteArray × ByteArray × Int) : Ps false (E ++ [x]) = Ps false E ++ [x.2.2] := by unfold Ps; rw [if_neg (by simp), if_neg (by simp), List.map_append]; rfl
theorem leaf_kind {kind : Int} {leaf : Bool} (h : leaf = true ↔ kind = 1) : (leaf = true ∧ kind = 1) ∨ (leaf = false ∧ kind ≠ 1) := by
  cases leaf
  · exact Or.inr ⟨rfl, fun e => by have := h.2 e; simp at this⟩
  · exact Or.inl ⟨rfl, h.1 rfl⟩
theorem u64_pred {c : Nat} (h : c + 1 < 18446744073709551616) : IntKind.u64.wrap (((c + 1 : Nat) : Int) - 1) = (c : Int) := by
  rw [show ((c + 1 : Nat) : Int) - 1 = (c : Int) by omega]; exact u64_in (by omega) (by omega)
theorem own_step (k : Nat) (kind : Int) (leaf : Bool) (hk1 : leaf = true ↔ kind = 1) (c : Nat) (hc : c + 1 < 18446744073709551616) (E : Es) (l : List UInt8) (hl : l.length ≤ 1000) (hE : E.length ≤ 1000) (hk : 4000 < k) :
    node_Parse.l0 (k + 2) kind ((c + 1 : Nat) : Int) kind (Ks E) (Vs leaf E) (Ps leaf E) (mkS l) 0 =
      node_Parse.l0 k kind (c : Int) kind (Ks (E ++ [(stepL leaf l).1])) (Vs leaf (E ++ [(stepL leaf l).1])) (Ps leaf (E ++ [(stepL leaf l).1])) (mkS (stepL leaf l).2.1) (stepL leaf l).2.2 := by
  have h0 : ((c + 1 : Nat) : Int) > 0 := by omega
  simp only [node_Parse.l0]
  rw [if_pos h0, err_is, Option.bind_some]
  simp only [node_Parse.j2]
  have e0 : ((0 : Int) == 0) = true := rfl
  rw [e0, if_pos rfl, intext_is k (mkS l) 0 16 (Or.inl rfl) (by rw [size_mk]; omega) (by rw [size_mk]; omega) (by omega), Option.bind_some, lst_mk]
  have hlen : (rText l 0 16).2.1.length ≤ l.length := by
    by_cases h : (rText l 0 16).2.2 = 0
    · have := congrArg List.length (rText_head l 16 h).1; rw [List.length_append] at this; omega
    · rw [rText_bad l 16 h]; simp
  have hr : (rText l 0 16).2.2 = 0 ∨ lst (mkS (rText l 0 16).2.1) = [] := by
    rw [lst_mk]
    by_cases h : (rText l 0 16).2.2 = 0
    · exact Or.inl h
    · rw [rText_bad l 16 h]; exact Or.inr rfl
  have hv := vs_len leaf E
  have hp := ps_len leaf E
  rw [if_pos (by rw [ks_len]; omega), Option.bind_some, u64_pred hc]
  rcases leaf_kind hk1 with ⟨rfl, rfl⟩ | ⟨rfl, hne⟩
  · rw [if_pos rfl, intext_is k _ _ 32 hr (by rw [size_mk]; omega) (by rw [size_mk]; omega) (by omega), Option.bind_some, if_pos (by omega), lst_mk, ks_add, vs_add]
    rfl
  · rw [if_neg hne, show (2147483647 : Int) = ((2147483647 : Nat) : Int) from rfl, innum_is k _ _ 2147483647 (by rw [size_mk]; omega) (by rw [size_mk]; omega), Option.bind_some, if_pos (by omega), lst_mk, ks_add, ps_add]
    have hw : ∀ n : Nat, n ≤ 2147483647 → wrap64 (n : Int) = (n : Int) := fun n h => by unfold wrap64; omega
    rw [hw _ (rNum_lt _ _ _).2.1]
    rfl
theorem own_loop2 (kind : Int) (leaf : Bool) (hk1 : leaf = true ↔ kind = 1) (d : Nat) : ∀ (k c : Nat) (l : List UInt8) (E : Es), c < 18446744073709551616 → l.length ≤ d → E.length + d < 1000 → 2 * d + 4005 < k →
    node_Parse.l0 k kind (c : Int) kind (Ks E) (Vs leaf E) (Ps leaf E) (mkS l) 0 = some (finish kind leaf (parseL leaf d c l E)) := by
  induction d with
  | zero =>
    intro k c l E hc hl hE hk
    obtain rfl : l = [] := List.length_eq_zero_iff.1 (by omega)
    cases c with
    | zero => exact own_end k kind leaf E [] _ 0 (Or.inl (by omega)) (fun _ => Or.inl rfl) (by omega) (by omega)
    | succ c =>
      obtain ⟨k, rfl⟩ : ∃ m, k = m + 2 := ⟨k - 2, by omega⟩
      have hn := step_nil leaf
      rw [own_step k kind leaf hk1 c hc E [] (by simp) (by omega) (by omega), step_bad leaf [] hn, own_end k kind leaf _ [] _ _ (Or.inr ⟨hn, rfl⟩) (fun _ => Or.inr rfl) (by rw [List.length_append]; simp; omega) (by omega)]
      unfold finish parseL
      simp only [if_pos hn]
  | succ d ih =>
    intro k c l E hc hl hE hk
    cases c with
    | zero =>
      have : parseL leaf (d + 1) 0 l E = (E, l, 0) := rfl
      rw [this]
      exact own_end k kind leaf E l _ 0 (Or.inl (by omega)) (fun _ => Or.inl rfl) (by omega) (by omega)
    | succ c =>
      obtain ⟨k, rfl⟩ : ∃ m, k = m + 2 := ⟨k - 2, by omega⟩
      rw [own_step k kind leaf hk1 c hc E l (by omega) (by omega) (by omega), parseL]
      by_cases hn : (stepL leaf l).2.2 = 0
      · have hs := step_less leaf l hn
        rw [if_pos hn, hn]
        exact ih k c _ _ (by omega) (by omega) (by rw [List.length_append, List.length_singleton]; omega) (by omega)
      · rw [if_neg hn, step_bad leaf l hn, own_end k kind leaf _ [] _ _ (Or.inr ⟨hn, rfl⟩) (fun _ => Or.inr rfl) (by rw [List.length_append, List.length_singleton]; omega) (by omega)]
        unfold finish
        simp only [if_pos hn]
/-- What Parse tells. -/
noncomputable def parsed (kind : Int) (l : List UInt8) : Int × List ByteArray × List ByteArray × List Int × Int :=
  if kind = 1 ∨ kind = 2 then (if (scanL 0 0 l).2.2 = 0 then finish kind (kind == 1) (parseL (kind == 1) 900 (scanL 0 0 l).1 (l.drop (scanL 0 0 l).2.1) []) else (0, [], [], [], ((scanL 0 0 l).2.2 : Int))) else (0, [], [], [], 13)
theorem parse_is (k : Nat) (kind : Int) (l : List UInt8) (hl : l.length ≤ 300) (hk : 6000 < k) : node_Parse.f k kind (mkS l) = some (parsed kind l) := by
  obtain ⟨k, rfl⟩ : ∃ m, k = m + 1 := ⟨k - 1, by omega⟩
  have good : kind = 1 ∨ kind = 2 → node_Parse.j0 (k + 1) kind (mkS l) false kind = some (parsed kind l) := fun h => by
    have hN := innum_is k (mkS l) 0 18446744073709551615 (by rw [size_mk]; omega) (by rw [size_mk]; omega)
    have hS := scanL_le l 0 0 (by omega) (by omega)
    rw [lst_mk] at hN
    simp only [node_Parse.j0, varint_Of.f]
    rw [if_neg (by simp), Option.bind_some]
    simp only
    rw [show (18446744073709551615 : Int) = ((18446744073709551615 : Nat) : Int) from rfl, hN, Option.bind_some]
    simp only
    unfold parsed
    rw [if_pos h]
    have e1 : ([] : List ByteArray) = Ks [] := rfl
    have e2 : ([] : List ByteArray) = Vs (kind == 1) [] := by unfold Vs; cases (kind == 1) <;> rfl
    have e3 : ([] : List Int) = Ps (kind == 1) [] := by unfold Ps; cases (kind == 1) <;> rfl
    by_cases h1 : (scanL 0 0 l).2.2 = 0
    · have hr : rNum l 0 18446744073709551615 = ((scanL 0 0 l).1, l.drop (scanL 0 0 l).2.1, 0) := by
        unfold rNum; rw [if_pos rfl, if_pos h1, if_neg (by omega)]
      rw [hr, if_pos h1]
      simp only
      have := own_loop2 kind (kind == 1) (by rw [beq_iff_eq]) 900 k (scanL 0 0 l).1 (l.drop (scanL 0 0 l).2.1) [] hS.1 (by rw [List.length_drop]; omega) (by simp) (by omega)
      rw [← e1, ← e2, ← e3] at this
      exact this
    · have hr : rNum l 0 18446744073709551615 = (0, [], ((scanL 0 0 l).2.2 : Int)) := by
        unfold rNum; rw [if_pos rfl, if_neg h1]
      rw [hr, if_neg h1]
      simp only
      have := own_end k kind (kind == 1) [] [] 0 ((scanL 0 0 l).2.2 : Int) (Or.inl (by omega)) (fun _ => Or.inr rfl) (by simp) (by omega)
      rw [← e1, ← e2, ← e3] at this
      rw [show ((0 : Nat) : Int) = 0 from rfl, this]
      unfold finish
      simp only
      rw [if_pos (by omega)]
  unfold node_Parse.f
  by_cases h1 : kind = 1
  · rw [if_pos h1]; exact good (Or.inl h1)
  · rw [if_neg h1]
    by_cases h2 : kind = 2
    · have : (kind != 2) = false := by rw [h2]; rfl
      rw [this]; exact good (Or.inr h2)
    · have : (kind != 2) = true := by rw [bne_iff_ne]; exact h2
      rw [this]
      simp only [node_Parse.j0]
      unfold parsed
      rw [if_pos trivial, if_neg (by omega)]
end Go.Proofs.Ytlboglbgdjakmaa.PA
