/- The document's Rank tells the very places that the program's tells; the first twenty bits as heats. Condition: bits of 64. -/
import Derived.Test.YtiikmomjggcdfaaPAx3
import Derived.Test.YtiikmomjggcdfaaPAx8
import Derived.Test.YtiikmomjggcdfaaPAx9
import Derived.Test.YtiikmomjggcdfaaFlt
import Derived.Test.YtiikmomjggcdfaaRankPlain
namespace Go.Proofs.Ytiikmomjggcdfaa.RankRef
open Go.RowKit Go.Proofs.Ytiikmomjggcdfaa.PA Go.Proofs.Ytiikmomjggcdfaa.Flt Go.Proofs.Ytiikmomjggcdfaa.RankPlain Go.Proofs.YtiikmomjggcdfaaW.PrintWords Go.Proofs.YtiikmomjggcdfaaW.PrintLast
set_option linter.unusedVariables false
theorem wrap_small {x : Int} (h0 : -9223372036854775808 ≤ x) (h1 : x ≤ 9223372036854775807) : wrap64 x = x := by unfold wrap64; omega
theorem rd_get (l : List Int) (i : Nat) (h : i < l.length) : rd l (i : Int) = l[i] := by
  unfold rd; rw [Int.toNat_natCast, List.getD_eq_getElem?_getD, List.getElem?_eq_getElem h]; rfl
/-- what a round of the inner loop's end does -/
def fin (k : Nat) (l : List Nat) (out : List Int) (turn best i : Int) (u : Bool) : Option (List Int) :=
  if u = true then dowserref03_Rank.l1 k l out turn best l (l.length : Int) (wrap64 (i + 1)) else (if best < 0 then (dowserref03_Rank.l1 k l out turn i l (l.length : Int) (wrap64 (i + 1))) else (if 0 ≤ best then (if best < (l.length : Int) then ((dowserref03_Less.f k (rdOf (0 : Nat) l best) (rdOf (0 : Nat) l i)).bind fun t152 => (if t152 = true then (dowserref03_Rank.l1 k l out turn i l (l.length : Int) (wrap64 (i + 1))) else (dowserref03_Rank.l1 k l out turn best l (l.length : Int) (wrap64 (i + 1))))) else (none)) else (none)))
theorem used (k : Nat) (l : List Nat) (out : List Int) (turn best i : Int) (hs : out.length < 1000) : ∀ (d j : Nat) (u : Bool), j + d = out.length →
    dowserref03_Rank.l2 (k + d + 1) l out turn best i (rdOf (0 : Nat) l i) u l (l.length : Int) i out (out.length : Int) (j : Int) = fin k l out turn best i (u || (out.drop j).any (· == i))
  | 0, j, u, h => by
    have : out.drop j = [] := by rw [List.drop_eq_nil_iff]; omega
    rw [this, List.any_nil, Bool.or_false]
    simp only [dowserref03_Rank.l2]
    rw [if_neg (by omega)]
    rfl
  | d + 1, j, u, h => by
    have hj : j < out.length := by omega
    have hw : wrap64 ((j : Int) + 1) = ((j + 1 : Nat) : Int) := by rw [wrap_small (by omega) (by omega)]; omega
    rw [show k + (d + 1) + 1 = (k + d + 1) + 1 by omega]
    generalize hK : k + d + 1 = K
    simp only [dowserref03_Rank.l2]
    rw [if_pos (by omega), if_pos (by omega), if_pos (by omega), hw, ← hK, used k l out turn best i hs d (j + 1) true (by omega), used k l out turn best i hs d (j + 1) _ (by omega), rd_get out j hj, List.drop_eq_getElem_cons hj, List.any_cons]
    cases u with
    | true => rw [if_pos rfl, Bool.true_or, Bool.true_or]
    | false => rw [if_neg (by decide), Bool.false_or]
def stepB (l : List Nat) (out : List Int) (best i : Int) : Int :=
  if out.any (· == i) = true then best else if best < 0 then i else if key (rdOf (0 : Nat) l best) < key (rdOf (0 : Nat) l i) then i else best
/-- best, behind the places from i on -/
def bestL (l : List Nat) (out : List Int) : Nat → Nat → Int → Int
  | 0, _, best => best
  | r + 1, i, best => bestL l out r (i + 1) (stepB l out best (i : Int))
theorem scan (k : Nat) (l : List Nat) (hl : ∀ x ∈ l, x < 18446744073709551616) (hn : l.length ≤ 20) (out : List Int) (turn : Int) (hs : out.length < 1000) : ∀ (r i : Nat) (best : Int), i + r = l.length → (best = -1 ∨ 0 ≤ best ∧ best < (i : Int)) →
    dowserref03_Rank.l1 (k + 1 + r * (out.length + 2)) l out turn best l (l.length : Int) (i : Int) = dowserref03_Rank.l0 k l (out ++ [bestL l out r i best]) (wrap64 (turn + 1))
  | 0, i, best, h, hb => by
    rw [Nat.zero_mul, Nat.add_zero]
    simp only [dowserref03_Rank.l1]
    rw [if_neg (by omega), if_pos (by omega)]
    rfl
  | r + 1, i, best, h, hb => by
    have hw : wrap64 ((i : Int) + 1) = ((i + 1 : Nat) : Int) := by rw [wrap_small (by omega) (by omega)]; omega
    have e : k + 1 + (r + 1) * (out.length + 2) = ((k + 1 + r * (out.length + 2)) + out.length + 1) + 1 := by rw [Nat.add_mul]; omega
    rw [e]
    generalize hK : k + 1 + r * (out.length + 2) = K
    have hK1 : ∃ q, K = q + 1 := ⟨K - 1, by omega⟩
    obtain ⟨q, hq⟩ := hK1
    simp only [dowserref03_Rank.l1]
    rw [if_pos (by omega), if_pos (by omega), if_pos (by omega)]
    have hu := used K l out turn best (i : Int) hs out.length 0 false (by omega)
    rw [Int.ofNat_zero] at hu
    rw [hu, List.drop_zero, Bool.false_or]
    have goal : ∀ b : Int, b = stepB l out best (i : Int) → dowserref03_Rank.l1 K l out turn b l (l.length : Int) ((i + 1 : Nat) : Int) = dowserref03_Rank.l0 k l (out ++ [bestL l out (r + 1) i best]) (wrap64 (turn + 1)) := by
      intro b hbq
      have hb2 : b = -1 ∨ 0 ≤ b ∧ b < ((i + 1 : Nat) : Int) := by
        rw [hbq]; unfold stepB
        split
        · omega
        · split
          · omega
          · split <;> omega
      rw [← hK, scan k l hl hn out turn hs r (i + 1) b (by omega) hb2, hbq]
      rfl
    unfold fin
    rw [hw]
    by_cases c : out.any (· == (i : Int)) = true
    · rw [if_pos c]
      exact goal best (by unfold stepB; rw [if_pos c])
    · rw [if_neg c]
      by_cases c2 : best < 0
      · rw [if_pos c2]
        exact goal i (by unfold stepB; rw [if_neg c, if_pos c2])
      · rw [if_neg c2, if_pos (by omega), if_pos (by omega), hq, less_f q _ _ (rd_lt hl _) (rd_lt hl _), Option.bind_some]
        by_cases c3 : key (rdOf (0 : Nat) l best) < key (rdOf (0 : Nat) l (i : Int))
        · rw [if_pos (decide_eq_true c3), ← hq]
          exact goal i (by unfold stepB; rw [if_neg c, if_neg c2, if_pos c3])
        · rw [if_neg (by simpa using c3), ← hq]
          exact goal best (by unfold stepB; rw [if_neg c, if_neg c2, if_neg c3])
/-- what best is, behind the first i places -/
def Best (l : List Nat) (out : List Int) (i : Nat) (best : Int) : Prop :=
  (best = -1 ∧ ∀ q : Nat, q < i → (q : Int) ∈ out) ∨ (0 ≤ best ∧ best < (i : Int) ∧ best ∉ out ∧ ∀ q : Nat, q < i → (q : Int) ∉ out → (q : Int) = best ∨ before l best q)
theorem any_mem (out : List Int) (i : Int) : out.any (· == i) = true ↔ i ∈ out := by
  rw [List.any_eq_true]
  constructor
  · rintro ⟨x, hx, e⟩; rw [← eq_of_beq e]; exact hx
  · intro h; exact ⟨i, h, by simp⟩
theorem Best.step {l : List Nat} {out : List Int} {i : Nat} {best : Int} (h : Best l out i best) : Best l out (i + 1) (stepB l out best i) := by
  unfold stepB
  by_cases c : out.any (· == (i : Int)) = true
  · rw [if_pos c]
    have hm := (any_mem out i).mp c
    rcases h with ⟨h1, h2⟩ | ⟨h1, h2, h3, h4⟩
    · exact .inl ⟨h1, fun q hq => by
        by_cases e : q < i
        · exact h2 q e
        · have : q = i := by omega
          rw [this]; exact hm⟩
    · refine .inr ⟨h1, by omega, h3, fun q hq hqo => ?_⟩
      by_cases e : q < i
      · exact h4 q e hqo
      · have : q = i := by omega
        rw [this] at hqo; exact absurd hm hqo
  · rw [if_neg c]
    have hm : (i : Int) ∉ out := fun hh => c ((any_mem out i).mpr hh)
    rcases h with ⟨h1, h2⟩ | ⟨h1, h2, h3, h4⟩
    · rw [if_pos (by omega)]
      refine .inr ⟨by omega, by omega, hm, fun q hq hqo => ?_⟩
      by_cases e : q < i
      · exact absurd (h2 q e) hqo
      · left; omega
    · rw [if_neg (by omega)]
      by_cases c3 : key (rdOf (0 : Nat) l best) < key (rdOf (0 : Nat) l (i : Int))
      · rw [if_pos c3]
        refine .inr ⟨by omega, by omega, hm, fun q hq hqo => ?_⟩
        by_cases e : q < i
        · right
          rcases h4 q e hqo with h5 | h5
          · rw [h5]; unfold before; omega
          · unfold before at *; omega
        · left; omega
      · rw [if_neg c3]
        refine .inr ⟨h1, by omega, h3, fun q hq hqo => ?_⟩
        by_cases e : q < i
        · exact h4 q e hqo
        · right
          have : q = i := by omega
          subst this
          unfold before; omega
theorem bestL_is (l : List Nat) (out : List Int) : ∀ (r i : Nat) (best : Int), Best l out i best → Best l out (i + r) (bestL l out r i best)
  | 0, _, _, h => h
  | r + 1, i, best, h => by
    have := bestL_is l out r (i + 1) _ h.step
    rw [show i + (r + 1) = i + 1 + r by omega]
    exact this
theorem mem_rngL (n : Nat) (x : Int) : x ∈ rngL n ↔ 0 ≤ x ∧ x < (n : Int) := by
  unfold rngL
  rw [List.mem_map]
  constructor
  · rintro ⟨q, hq, rfl⟩; rw [List.mem_range] at hq; omega
  · rintro ⟨h0, h1⟩; exact ⟨x.toNat, by rw [List.mem_range]; omega, by omega⟩
theorem nodup_rngL (n : Nat) : (rngL n).Nodup := by
  unfold rngL List.Nodup
  rw [List.pairwise_map]
  exact (List.nodup_range (n := n)).imp (fun h e => h (by omega))
theorem pick {l : List Nat} (hl : ∀ x ∈ l, x < 18446744073709551616) (t : Nat) (ht : t < (rankL l).length) : bestL l ((rankL l).take t) l.length 0 (-1) = (rankL l)[t] := by
  obtain ⟨hp, hs⟩ := rank_spec l hl
  have hnd : (rankL l).Nodup := hp.nodup_iff.mpr (nodup_rngL _)
  have hb := bestL_is l ((rankL l).take t) l.length 0 (-1) (.inl ⟨rfl, fun q hq => by omega⟩)
  rw [Nat.zero_add] at hb
  generalize bestL l ((rankL l).take t) l.length 0 (-1) = b at hb
  have hR : ∀ i (hi : i < (rankL l).length), 0 ≤ (rankL l)[i] ∧ (rankL l)[i] < (l.length : Int) := fun i hi => (mem_rngL _ _).mp (hp.mem_iff.mp (List.getElem_mem hi))
  have hnt : (rankL l)[t] ∉ (rankL l).take t := by
    intro hm
    rw [List.mem_take_iff_getElem] at hm
    obtain ⟨i, hi, e⟩ := hm
    exact (List.pairwise_iff_getElem.mp hnd) i t (by omega) ht (by omega) e
  obtain ⟨T, hT⟩ : ∃ T : Nat, (T : Int) = (rankL l)[t] := ⟨(rankL l)[t].toNat, by have := hR t ht; omega⟩
  have hTn : T < l.length := by have := hR t ht; omega
  rcases hb with ⟨h1, h2⟩ | ⟨h1, h2, h3, h4⟩
  · exact absurd (hT ▸ h2 T hTn) hnt
  · rcases h4 T hTn (by rw [hT]; exact hnt) with h5 | h5
    · rw [← hT, h5]
    · have hbm : b ∈ rankL l := hp.mem_iff.mpr ((mem_rngL _ _).mpr ⟨h1, h2⟩)
      obtain ⟨j, hj, rfl⟩ := List.mem_iff_getElem.mp hbm
      by_cases hjt : j < t
      · exact absurd (List.mem_take_iff_getElem.mpr ⟨j, by omega, rfl⟩) h3
      · by_cases e : j = t
        · subst e; rfl
        · have := (List.pairwise_iff_getElem.mp hs) t j ht hj (by omega)
          rw [← hT] at this
          exact absurd h5 this
theorem rank_len {l : List Nat} (hl : ∀ x ∈ l, x < 18446744073709551616) : (rankL l).length = l.length := by
  rw [(rank_spec l hl).1.length_eq, rngL_length]
theorem turns (l : List Nat) (hl : ∀ x ∈ l, x < 18446744073709551616) (hn : l.length ≤ 20) : ∀ (d t : Nat), t + d = l.length → ∃ K, ∀ k, K ≤ k → dowserref03_Rank.l0 k l ((rankL l).take t) (t : Int) = some (rankL l)
  | 0, t, h => by
    refine ⟨1, fun k hk => ?_⟩
    obtain ⟨k, rfl⟩ : ∃ m, k = m + 1 := ⟨k - 1, by omega⟩
    simp only [dowserref03_Rank.l0]
    rw [if_neg (by omega), List.take_of_length_le (by rw [rank_len hl]; omega)]
  | d + 1, t, h => by
    obtain ⟨K, hK⟩ := turns l hl hn d (t + 1) (by omega)
    have hlt : ((rankL l).take t).length = t := by rw [List.length_take, rank_len hl]; omega
    refine ⟨K + 2 + l.length * (t + 2), fun k hk => ?_⟩
    obtain ⟨q, rfl⟩ : ∃ q, k = (q + 1 + l.length * (t + 2)) + 1 := ⟨k - 2 - l.length * (t + 2), by omega⟩
    simp only [dowserref03_Rank.l0]
    rw [if_pos (by omega)]
    have hsc := scan q l hl hn ((rankL l).take t) (t : Int) (by omega) l.length 0 (-1) (by omega) (.inl rfl)
    rw [hlt, Int.ofNat_zero] at hsc
    rw [hsc, pick hl t (by rw [rank_len hl]; omega), List.take_append_getElem (by rw [rank_len hl]; omega)]
    have hw : wrap64 ((t : Int) + 1) = ((t + 1 : Nat) : Int) := by rw [wrap_small (by omega) (by omega)]; omega
    rw [hw]
    exact hK q (by omega)
theorem rank_ref (l : List Nat) (hl : ∀ x ∈ l, x < 18446744073709551616) (hn : l.length ≤ 20) : ∃ K, ∀ k, K ≤ k → dowserref03_Rank.f k l = some (rankL l) := by
  obtain ⟨K, hK⟩ := turns l hl hn l.length 0 (by omega)
  refine ⟨K, fun k hk => ?_⟩
  have := hK k hk
  rw [List.take_zero, Int.ofNat_zero] at this
  exact this
/-! ### the law's floats -/
def fl (l : List Int) : List Nat := (l.take 20).map Int.toNat
theorem floats_from (l : List Int) : ∀ (d k i : Nat), i + d = (l.take 20).length → d < k → dowserlaw03_floats.l0 k l (((l.take 20).take i).map Int.toNat) (i : Int) = some (fl l)
  | 0, k, i, h, hk => by
    obtain ⟨k, rfl⟩ : ∃ m, k = m + 1 := ⟨k - 1, by omega⟩
    simp only [dowserlaw03_floats.l0]
    have hlen : (l.take 20).length = min 20 l.length := List.length_take
    have e : ((l.take 20).take i).map Int.toNat = fl l := by rw [List.take_of_length_le (by omega)]; rfl
    by_cases c : (i : Int) < (l.length : Int)
    · rw [if_pos c, if_neg (by omega), e]
    · rw [if_neg c, e]
  | d + 1, k, i, h, hk => by
    obtain ⟨k, rfl⟩ : ∃ m, k = m + 1 := ⟨k - 1, by omega⟩
    have hlen : (l.take 20).length = min 20 l.length := List.length_take
    simp only [dowserlaw03_floats.l0]
    have hw : wrap64 ((i : Int) + 1) = ((i + 1 : Nat) : Int) := by rw [wrap_small (by omega) (by omega)]; omega
    rw [if_pos (by omega), if_pos (by omega), if_pos (by omega), if_pos (by rw [List.length_map, List.length_take]; omega), hw, rd_get l i (by omega)]
    have e : ((l.take 20).take i).map Int.toNat ++ [(l[i]'(by omega)).toNat] = ((l.take 20).take (i + 1)).map Int.toNat := by
      rw [← List.take_append_getElem (show i < (l.take 20).length by omega), List.map_append, List.map_cons, List.map_nil, List.getElem_take]
    rw [e]
    exact floats_from l d k (i + 1) (by omega) (by omega)
theorem floats_f (l : List Int) (k : Nat) (hk : 21 ≤ k) : dowserlaw03_floats.f k l = some (fl l) := by
  have hlen : (l.take 20).length = min 20 l.length := List.length_take
  have := floats_from l (l.take 20).length k 0 (by omega) (by omega)
  rw [List.take_zero, List.map_nil, Int.ofNat_zero] at this
  exact this
theorem fl_lt {l : List Int} (h : ∀ x ∈ l, (Lit.int .u64 x).wf = true) : ∀ x ∈ fl l, x < 18446744073709551616 := by
  intro x hx
  unfold fl at hx
  rw [List.mem_map] at hx
  obtain ⟨y, hy, rfl⟩ := hx
  exact (nat64 (h y (List.mem_of_mem_take hy))).1
theorem fl_len (l : List Int) : (fl l).length ≤ 20 := by
  unfold fl; rw [List.length_map, List.length_take]; omega
end Go.Proofs.Ytiikmomjggcdfaa.RankRef
