-- a node's bytes
import Derived.Test.YtlboglbgdjakmaaPAx12
import Derived.Test.YtlboglbgdjakmaaPAx13
import Derived.Test.YtlboglbgdjakmaaNodeParse
namespace Go.Proofs.Ytlboglbgdjakmaa.PA
open Go.RowKit Go.Proofs.YtlboglbgdjakmaaW.PrintWords Go.Proofs.YtlboglbgdjakmaaW.PrintLast Go.Proofs.YtlboglbgdjakmaaW.PrintMore Go.Proofs.Ytlboglbgdjakmaa.VarPlain Go.Proofs.Ytlboglbgdjakmaa.Tools
theorem rdOf_map {α : Type} (f : α → ByteArray) (E : List α) (i : Nat) (h : i < E.length) : rdOf ByteArray.empty (E.map f) (i : Int) = f E[i] := by
  unfold rdOf; rw [Int.toNat_natCast, List.getD_eq_getElem?_getD, List.getElem?_map, List.getElem?_eq_getElem h]; rfl
theorem rd_map {α : Type} (f : α → Int) (E : List α) (i : Nat) (h : i < E.length) : rd (E.map f) (i : Int) = f E[i] := by
  unfold rd; rw [Int.toNat_natCast, List.getD_eq_getElem?_getD, List.getElem?_map, List.getElem?_eq_getElem h]; rfl
theorem encT_len (l : List UInt8) (h : l.length ≤ 1000) : (encT l).length ≤ 1010 := by
  unfold encT; rw [List.length_append]; have := enc_len_u64 (x := l.length) (by omega); omega
theorem entL_len (leaf : Bool) (x : ByteArray × ByteArray × Int) (h : Small x) : (entL leaf x).length ≤ 2020 ∧ 0 < (entL leaf x).length := by
  obtain ⟨h1, h2, h3, h4⟩ := h
  rw [size_lst] at h1 h2
  unfold entL
  have a := encT_len (lst x.1) (by omega)
  have b := encT_len (lst x.2.1) (by omega)
  have c := enc_len_u64 (x := x.2.2.toNat) (by omega)
  have p : 0 < (encT (lst x.1)).length := by unfold encT; rw [List.length_append]; have := enc_len_pos (lst x.1).length; omega
  rw [List.length_append]
  cases leaf
  · simp only [Bool.false_eq_true, if_false]; omega
  · simp only [if_true]; omega
theorem entry_is (k : Nat) (kind : Int) (leaf : Bool) (hk1 : leaf = true ↔ kind = 1) (E : Es) (i : Nat) (hi : i < E.length) (hs : Small E[i]) (hk : 10 < k) :
    node_Node_entry.f k kind (Ks E) (Vs leaf E) (Ps leaf E) (i : Int) = some (mkS (entL leaf E[i])) := by
  have hl := entL_len leaf E[i] hs
  obtain ⟨h1, h2, h3, h4⟩ := hs
  have h1' := h1; have h2' := h2
  rw [size_lst] at h1' h2'
  have e1 : rdOf ByteArray.empty (Ks E) (i : Int) = E[i].1 := rdOf_map _ E i hi
  have t1 := text_is k E[i].1 (by omega) hk
  have L1 := encT_len (lst E[i].1) (by omega)
  have L2 := encT_len (lst E[i].2.1) (by omega)
  have L3 := enc_len_u64 (x := E[i].2.2.toNat) (by omega)
  have c1 : (i : Int) < ((Ks E).length : Int) := by rw [ks_len]; omega
  unfold node_Node_entry.f
  rcases leaf_kind hk1 with ⟨rfl, rfl⟩ | ⟨rfl, hne⟩
  · have e2 : rdOf ByteArray.empty (Vs true E) (i : Int) = E[i].2.1 := rdOf_map _ E i hi
    have c2 : (i : Int) < ((Vs true E).length : Int) := by unfold Vs; rw [if_pos rfl, List.length_map]; omega
    rw [if_pos rfl, if_pos (Int.natCast_nonneg _), if_pos c1, e1, t1, Option.bind_some, if_pos c2, e2, text_is k E[i].2.1 (by omega) hk, Option.bind_some]
    rw [if_pos (by rw [size_mk, size_mk]; omega), append_mk]
    rfl
  · have e2 : rd (Ps false E) (i : Int) = E[i].2.2 := rd_map _ E i hi
    have c2 : (i : Int) < ((Ps false E).length : Int) := by unfold Ps; rw [if_neg (by simp), List.length_map]; omega
    have hn : IntKind.u64.wrap E[i].2.2 = ((E[i].2.2.toNat : Nat) : Int) := by rw [u64_in h3 (by omega)]; omega
    rw [if_neg hne, if_pos (Int.natCast_nonneg _), if_pos c1, e1, t1, Option.bind_some, if_pos c2, e2, hn, num_is k E[i].2.2.toNat (by omega) hk, Option.bind_some]
    rw [if_pos (by rw [size_mk, size_mk]; omega), append_mk]
    rfl
theorem pack_loop (kind : Int) (leaf : Bool) (hk1 : leaf = true ↔ kind = 1) (E : Es) (hE : E.length ≤ 1000) (hs : ∀ x ∈ E, Small x) (d : Nat) : ∀ (k i : Nat) (acc : List UInt8), E.length - i = d → i ≤ E.length → acc.length ≤ 10 + 2020 * i → d + 20 < k →
    node_Node_Pack.l0 k kind (Ks E) (Vs leaf E) (Ps leaf E) i acc = some (mkS (acc ++ (E.drop i).flatMap (entL leaf))) := by
  induction d with
  | zero =>
    intro k i acc hd hi ha hk
    obtain ⟨k, rfl⟩ : ∃ m, k = m + 1 := ⟨k - 1, by omega⟩
    simp only [node_Node_Pack.l0]
    rw [if_neg (by rw [ks_len]; omega), List.drop_eq_nil_of_le (by omega), List.flatMap_nil, List.append_nil]
    rfl
  | succ d ih =>
    intro k i acc hd hi ha hk
    obtain ⟨k, rfl⟩ : ∃ m, k = m + 1 := ⟨k - 1, by omega⟩
    have hlt : i < E.length := by omega
    have hl := entL_len leaf E[i] (hs _ (List.getElem_mem hlt))
    simp only [node_Node_Pack.l0]
    rw [if_pos (by rw [ks_len]; omega), entry_is k kind leaf hk1 E i hlt (hs _ (List.getElem_mem hlt)) (by omega), Option.bind_some, if_pos (by rw [size_mk]; omega)]
    have : (mkS (entL leaf E[i])).data.toList = entL leaf E[i] := rfl
    rw [this, ih k (i + 1) _ (by omega) (by omega) (by rw [List.length_append]; omega) (by omega), List.drop_eq_getElem_cons hlt, List.flatMap_cons, List.append_assoc]
theorem pack_is (k : Nat) (kind : Int) (leaf : Bool) (hk1 : leaf = true ↔ kind = 1) (E : Es) (hE : E.length ≤ 1000) (hs : ∀ x ∈ E, Small x) (hk : 1100 < k) :
    node_Node_Pack.f k kind (Ks E) (Vs leaf E) (Ps leaf E) = some (mkS (enc E.length ++ E.flatMap (entL leaf))) := by
  unfold node_Node_Pack.f
  have hl := enc_len_u64 (x := E.length) (by omega)
  rw [ks_len, if_pos (by omega), num_is k E.length (by omega) (by omega), Option.bind_some, if_pos (by rw [size_mk]; omega)]
  have : (mkS (enc E.length)).data.toList = enc E.length := rfl
  rw [this, pack_loop kind leaf hk1 E hE hs E.length k 0 _ (by omega) (by omega) (by omega) (by omega), List.drop_zero]
/-! And back. -/
theorem parse_back (leaf : Bool) (d : Nat) : ∀ (c : Nat) (l : List UInt8) (E : Es), l.length ≤ d → (parseL leaf d c l E).2.2 = 0 →
    ∃ E2, (parseL leaf d c l E).1 = E ++ E2 ∧ E2.length = c ∧ l = E2.flatMap (entL leaf) ++ (parseL leaf d c l E).2.1 ∧ ∀ x ∈ E2, Small x := by
  induction d with
  | zero =>
    intro c l E hl h
    cases c with
    | zero => exact ⟨[], by rw [parseL]; simp, rfl, by rw [parseL]; rfl, by simp⟩
    | succ c =>
      obtain rfl : l = [] := List.length_eq_zero_iff.1 (by omega)
      rw [parseL] at h
      exact absurd h (step_nil leaf)
  | succ d ih =>
    intro c l E hl h
    cases c with
    | zero => exact ⟨[], by rw [parseL]; simp, rfl, by rw [parseL]; rfl, by simp⟩
    | succ c =>
      rw [parseL] at h ⊢
      by_cases hn : (stepL leaf l).2.2 = 0
      · rw [if_pos hn] at h ⊢
        obtain ⟨s1, _, s3⟩ := step_good leaf l hn
        have hs := step_less leaf l hn
        obtain ⟨E2, a1, a2, a3, a4⟩ := ih c _ _ (by omega) h
        refine ⟨(stepL leaf l).1 :: E2, ?_, by rw [List.length_cons, a2], ?_, ?_⟩
        · rw [a1, List.append_assoc]; rfl
        · rw [List.flatMap_cons, List.append_assoc, ← a3]; exact s1
        · intro x hx
          rcases List.mem_cons.1 hx with rfl | hx
          · exact s3
          · exact a4 x hx
      · rw [if_neg hn] at h; exact absurd h hn
theorem flat_len (leaf : Bool) (E : Es) (hs : ∀ x ∈ E, Small x) : E.length ≤ (E.flatMap (entL leaf)).length ∧ (E.flatMap (entL leaf)).length ≤ 2020 * E.length := by
  induction E with
  | nil => simp
  | cons x E ih =>
    have := ih (fun y hy => hs y (List.mem_cons_of_mem _ hy))
    have h2 := entL_len leaf x (hs x List.mem_cons_self)
    rw [List.flatMap_cons, List.length_append, List.length_cons]
    omega
theorem parsed_ok (kind : Int) (l : List UInt8) (hl : l.length ≤ 300) (h : (parsed kind l).2.2.2.2 = 0) :
    ∃ leaf E, (leaf = true ↔ kind = 1) ∧ parsed kind l = (kind, Ks E, Vs leaf E, Ps leaf E, 0) ∧ l = enc E.length ++ E.flatMap (entL leaf) ∧ (∀ x ∈ E, Small x) ∧ E.length ≤ 1000 ∧ Good kind (Ks E) (Vs leaf E) (Ps leaf E) := by
  unfold parsed at h ⊢
  by_cases hk : kind = 1 ∨ kind = 2
  · rw [if_pos hk] at h ⊢
    by_cases hs : (scanL 0 0 l).2.2 = 0
    · rw [if_pos hs] at h ⊢
      unfold finish at h ⊢
      generalize hR : parseL (kind == 1) 900 (scanL 0 0 l).1 (l.drop (scanL 0 0 l).2.1) [] = R at h ⊢
      by_cases h1 : R.2.2 = 0
      · rw [if_neg (by simp [h1])] at h ⊢
        by_cases h2 : R.2.1 = []
        · rw [if_neg (by simp [h2])] at h ⊢
          by_cases h3 : Good kind (Ks R.1) (Vs (kind == 1) R.1) (Ps (kind == 1) R.1)
          · rw [if_pos h3] at h ⊢
            obtain ⟨E2, a1, a2, a3, a4⟩ := parse_back (kind == 1) 900 (scanL 0 0 l).1 (l.drop (scanL 0 0 l).2.1) [] (by rw [List.length_drop]; omega) (by rw [hR]; exact h1)
            rw [hR, List.nil_append] at a1
            rw [hR, h2, List.append_nil] at a3
            obtain ⟨rest, b1, b2⟩ := scanL_head l hs
            have b3 : l.drop (scanL 0 0 l).2.1 = rest := by
              rw [b2]; exact (congrArg (List.drop (enc (scanL 0 0 l).1).length) b1).trans List.drop_left
            have hf := (flat_len (kind == 1) E2 a4).1
            rw [← a3, List.length_drop] at hf
            refine ⟨(kind == 1), E2, by rw [beq_iff_eq], by rw [a1], ?_, a4, by omega, by rw [← a1]; exact h3⟩
            rw [a2, ← a3, b3]; exact b1
          · rw [if_neg h3] at h; exact absurd h (by simp)
        · rw [if_pos (by simpa using h2)] at h; exact absurd h (by simp)
      · rw [if_pos (by simpa using h1)] at h; exact absurd h h1
    · rw [if_neg hs] at h; simp only at h; omega
  · rw [if_neg hk] at h; exact absurd h (by simp)
/-! Bytes that were made are read. -/
def Canon (leaf : Bool) (x : ByteArray × ByteArray × Int) : Prop := if leaf then x.2.2 = 0 else x.2.1 = mkS []
theorem step_made (leaf : Bool) (x : ByteArray × ByteArray × Int) (hs : Small x) (hc : Canon leaf x) (rest : List UInt8) : stepL leaf (entL leaf x ++ rest) = (x, rest, 0) := by
  obtain ⟨h1, h2, h3, h4⟩ := hs
  rw [size_lst] at h1 h2
  unfold stepL entL
  obtain ⟨a, b, p⟩ := x
  simp only at h1 h2 h3 h4 hc ⊢
  unfold Canon at hc
  rw [List.append_assoc, rText_enc (lst a) _ 16 (by omega) (by omega)]
  cases leaf
  · simp only [Bool.false_eq_true, if_false] at hc ⊢
    rw [rNum_enc p.toNat rest 2147483647 (by omega) (by omega)]
    simp only [mk_lst]
    rw [hc, Int.toNat_of_nonneg h3]
  · simp only [if_true] at hc ⊢
    rw [rText_enc (lst b) _ 32 (by omega) (by omega)]
    simp only [mk_lst]
    rw [hc]
theorem parse_made (leaf : Bool) (E : Es) : ∀ (d : Nat) (acc : Es) (rest : List UInt8), (∀ x ∈ E, Small x ∧ Canon leaf x) → E.length ≤ d → parseL leaf d E.length (E.flatMap (entL leaf) ++ rest) acc = (acc ++ E, rest, 0) := by
  induction E with
  | nil => intro d acc rest _ _; rw [List.length_nil, parseL]; simp
  | cons x E ih =>
    intro d acc rest hs hd
    rw [List.length_cons] at hd
    obtain ⟨d, rfl⟩ : ∃ m, d = m + 1 := ⟨d - 1, by omega⟩
    have hx := hs x List.mem_cons_self
    rw [List.length_cons, parseL, List.flatMap_cons, List.append_assoc, step_made leaf x hx.1 hx.2, if_pos rfl, ih d _ _ (fun y hy => hs y (List.mem_cons_of_mem _ hy)) (by omega), List.append_assoc]
    rfl
theorem parsed_made (kind : Int) (leaf : Bool) (hk1 : leaf = true ↔ kind = 1) (E : Es) (hs : ∀ x ∈ E, Small x ∧ Canon leaf x) (hE : E.length ≤ 900) (hg : Good kind (Ks E) (Vs leaf E) (Ps leaf E)) :
    parsed kind (enc E.length ++ E.flatMap (entL leaf)) = (kind, Ks E, Vs leaf E, Ps leaf E, 0) := by
  have hk : kind = 1 ∨ kind = 2 := by
    have := hg.1; unfold Shape at this; omega
  have hb : (kind == 1) = leaf := by rw [Bool.eq_iff_iff, beq_iff_eq]; exact hk1.symm
  unfold parsed
  rw [if_pos hk, scan_num E.length _ (by omega)]
  simp only [if_true]
  have := parse_made leaf E 900 [] [] hs hE
  rw [List.append_nil, List.nil_append] at this
  rw [List.drop_left, hb, this]
  unfold finish
  simp only [ne_eq, not_true_eq_false, if_false, if_pos hg]
end Go.Proofs.Ytlboglbgdjakmaa.PA
