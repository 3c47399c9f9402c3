/- Which programs may be: the program's Check and the document's tell the same. Condition: lists of few members. -/
import Derived.Test.YtgfjjhfkgfnpaaaPBx11
import Derived.Test.YtgfjjhfkgfnpaaaPBx20
import Derived.Test.YtgfjjhfkgfnpaaaPBx24
import Derived.Test.YtgfjjhfkgfnpaaaPBx5
import Derived.Test.YtgfjjhfkgfnpaaaPBx6
import Derived.Test.YtgfjjhfkgfnpaaaPBx7
import Derived.Test.YtgfjjhfkgfnpaaaPBx8
import Derived.Test.YtgfjjhfkgfnpaaaProgCheck
import Derived.Test.YtgfjjhfkgfnpaaaFltBits
import Derived.Test.YtgfjjhfkgfnpaaaTools
namespace Go.Proofs.Ytgfjjhfkgfnpaaa.ProgCheck
open Go Go.RowKit Go.Proofs.Ytgfjjhfkgfnpaaa.PB Go.Proofs.YtgfjjhfkgfnpaaaW.PrintWords Go.Proofs.YtgfjjhfkgfnpaaaW.PrintLast Go.Proofs.YtgfjjhfkgfnpaaaW.PrintMore Go.Proofs.Ytgfjjhfkgfnpaaa.Flt Go.Proofs.Ytgfjjhfkgfnpaaa.Tools
set_option linter.unusedVariables false
set_option linter.unusedSimpArgs false
def Rise (l : List Int) (i : Nat) : Prop := ∀ j, i ≤ j → j < l.length → rd l ((j - 1 : Nat) : Int) < rd l (j : Int)
theorem Rise_at (l : List Int) (i : Nat) (hi : i < l.length) : Rise l i ↔ rd l ((i - 1 : Nat) : Int) < rd l (i : Int) ∧ Rise l (i + 1) := by
  refine ⟨fun h => ⟨h i (Nat.le_refl _) hi, fun j hj hl => h j (by omega) hl⟩, fun h j hj hl => ?_⟩
  by_cases e : j = i
  · rw [e]; exact h.1
  · exact h.2 j (by omega) hl
theorem Rise_end (l : List Int) (i : Nat) (hi : l.length ≤ i) : Rise l i := fun j hj hl => by omega
section own
variable (a0 a1 a2 : Int) (F : List S52) (E : List Int) (O : List S53)
theorem is_l (E : List Int) (hl : E.length < 2 ^ 62) (d : Nat) : ∀ (K i : Nat), E.length - i = d → 1 ≤ i → d < K → ids_Is.l0 K E (i : Int) = some (pb (Rise E i)) := by
  induction d with
  | zero =>
    intro K i hd hi hK
    obtain ⟨K, rfl⟩ : ∃ m, K = m + 1 := ⟨K - 1, by omega⟩
    simp only [ids_Is.l0]
    rw [if_neg (by omega), pb_true (Rise_end E i (by omega))]
  | succ d ih =>
    intro K i hd hi hK
    obtain ⟨K, rfl⟩ : ∃ m, K = m + 1 := ⟨K - 1, by omega⟩
    simp only [ids_Is.l0]
    rw [if_pos (by omega), w_pred hi (by omega), if_pos (by omega), if_pos (by omega), if_pos (by omega), w_succ (by omega), ih K (i + 1) (by omega) (by omega) (by omega), pb_congr (Rise_at E i (by omega))]
    by_cases c : rd E ((i - 1 : Nat) : Int) ≥ rd E (i : Int)
    · rw [if_pos c, pb_false (by omega)]
    · rw [if_neg c, pb_congr (show _ ∧ Rise E (i + 1) ↔ Rise E (i + 1) from ⟨fun h => h.2, fun h => ⟨by omega, h⟩⟩)]
theorem is_f (k : Nat) (E : List Int) (hl : E.length < 2 ^ 62) (hk : E.length < k) : ids_Is.f k E = some (pb (Rise E 1)) := is_l E hl _ k 1 rfl (Nat.le_refl _) (by omega)
theorem own_l2 (hl : O.length < 2 ^ 62) (d : Nat) : ∀ (K k i : Nat) (x : Bool), O.length - i = d → K = k + 1 + d + 1 → program_Program_Check.l2 K x (O.map oO) (O.length : Int) (i : Int) a0 a1 a2 (F.map oF) E (O.map oO) = some (if (x && (O.drop i).all (okO a0 a1 a2 F.length)) = true then 0 else 12) := by
  induction d with
  | zero =>
    intro K k i x hd hK
    obtain rfl : K = k + 1 + 1 := by omega
    simp only [program_Program_Check.l2]
    rw [if_neg (by omega), List.drop_eq_nil_of_le (by omega), List.all_nil, Bool.and_true]
    cases x <;> rfl
  | succ d ih =>
    intro K k i x hd hK
    obtain ⟨M, rfl⟩ : ∃ m, K = m + 1 := ⟨k + 1 + d + 1, by omega⟩
    simp only [program_Program_Check.l2]
    obtain ⟨K, rfl⟩ : ∃ m, M = m + 1 := ⟨k + 1 + d, by omega⟩
    have hi : i < O.length := by omega
    have hg : rd_T42 (O.map oO) (i : Int) = oO O[i] := by rw [at42 _ i (by rw [List.length_map]; exact hi), List.getElem_map]
    rw [if_pos (by omega), if_pos (by omega), if_pos (by rw [List.length_map]; omega), hg, w_succ (by omega)]
    have ho := op_f K a0 a1 a2 (F.map oF) E (O.map oO) O[i]
    rw [List.length_map] at ho
    rw [show program_Program_op.f (K + 1) a0 a1 a2 (F.map oF) E (O.map oO) (oO O[i]).f0 (oO O[i]).f1 (oO O[i]).f2 (oO O[i]).f3 (oO O[i]).f4 (oO O[i]).f5 (oO O[i]).f6 = _ from ho, Option.bind_some, drop_all O _ i hi]
    simp only [ih (K + 1) k (i + 1) _ (by omega) (by omega)]
    cases x
    · rfl
    · rw [if_pos rfl, Bool.true_and]
theorem own_l1 (hl : F.length < 2 ^ 62) (d : Nat) : ∀ (K k i : Nat) (x : Bool), F.length - i = d → K = k + d + 1 → program_Program_Check.l1 K x (F.map oF) (F.length : Int) (i : Int) a0 a1 a2 (F.map oF) E (O.map oO) = program_Program_Check.l2 k (x && (F.drop i).all (okF a0)) (O.map oO) (O.length : Int) 0 a0 a1 a2 (F.map oF) E (O.map oO) := by
  induction d with
  | zero =>
    intro K k i x hd hK
    obtain rfl : K = k + 1 := by omega
    simp only [program_Program_Check.l1]
    rw [if_neg (by omega), List.drop_eq_nil_of_le (by omega), List.all_nil, Bool.and_true, List.length_map]
  | succ d ih =>
    intro K k i x hd hK
    obtain ⟨K, rfl⟩ : ∃ m, K = m + 1 := ⟨k + d + 1, by omega⟩
    simp only [program_Program_Check.l1]
    have hi : i < F.length := by omega
    have hg : rd_T45 (F.map oF) (i : Int) = oF F[i] := by rw [at45 _ i (by rw [List.length_map]; exact hi), List.getElem_map]
    rw [if_pos (by omega), if_pos (by omega), if_pos (by rw [List.length_map]; omega), hg, w_succ (by omega), variables_f, answer_f, Option.bind_some, Option.bind_some]
    simp only [ih K k (i + 1) _ (by omega) (by omega)]
    rw [drop_all F _ i hi]
    unfold okF
    cases x
    · rfl
    · rw [if_pos rfl]
      show (if F[i].f0.all (inb a0) = true then _ else _) = _
      cases F[i].f0.all (inb a0)
      · rfl
      · rfl
theorem own_l0 (hl : E.length < 2 ^ 62) (d : Nat) : ∀ (K k i : Nat) (x : Bool), E.length - i = d → K = k + d + 1 → program_Program_Check.l0 K x E (E.length : Int) (i : Int) a0 a1 a2 (F.map oF) E (O.map oO) = program_Program_Check.l1 k (x && (E.drop i).all (inb F.length)) (F.map oF) (F.length : Int) 0 a0 a1 a2 (F.map oF) E (O.map oO) := by
  induction d with
  | zero =>
    intro K k i x hd hK
    obtain rfl : K = k + 1 := by omega
    simp only [program_Program_Check.l0]
    rw [if_neg (by omega), List.drop_eq_nil_of_le (by omega), List.all_nil, Bool.and_true, List.length_map]
  | succ d ih =>
    intro K k i x hd hK
    obtain ⟨K, rfl⟩ : ∃ m, K = m + 1 := ⟨k + d + 1, by omega⟩
    simp only [program_Program_Check.l0]
    have hi : i < E.length := by omega
    rw [if_pos (by omega), if_pos (by omega), if_pos (by omega), at_i E i hi, w_succ (by omega), below_f, Option.bind_some]
    simp only [ih K k (i + 1) _ (by omega) (by omega), List.length_map]
    rw [drop_all E _ i hi]
    cases x
    · rfl
    · rw [if_pos rfl, Bool.true_and]
def Big : Bool := decide (a0 > 200) || (decide (a1 > 60) || (decide (a2 > 6) || (decide ((F.length : Int) > 30) || (decide ((O.length : Int) > 300) || (decide ((E.length : Int) > 30) || (F.any (fun x => decide (6 < x.f0.length)) || O.any (fun x => decide (6 < x.f5.length))))))))
noncomputable def Good : Bool := (decide (a0 ≥ 0) && (decide (a1 ≥ 0) && (decide (a2 ≥ 0) && pb (Rise E 1)))) && E.all (inb F.length) && F.all (okF a0) && O.all (okO a0 a1 a2 F.length)
noncomputable def verdict : Int := if Big a0 a1 a2 F E O = true then 4 else if Good a0 a1 a2 F E O = true then 0 else 12
theorem big_f (k : Nat) : program_Program_big.f (k + 1) a0 a1 a2 (F.map oF) E (O.map oO) = some (Big a0 a1 a2 F E O) := by
  have h1 : program_big_1.f (F.map oF) = some (F.any (fun x => decide (6 < x.f0.length))) := by
    unfold program_big_1.f; rw [List.any_map]; rfl
  have h2 : program_big_2.f (O.map oO) = some (O.any (fun x => decide (6 < x.f5.length))) := by
    unfold program_big_2.f; rw [List.any_map]; rfl
  unfold program_Program_big.f Big
  simp only [program_Program_big.j0, h1, h2, Option.bind_some, List.length_map]
  generalize F.any _ = b1
  generalize O.any _ = b2
  by_cases c1 : a0 > 200
  · simp [c1]
  by_cases c2 : a1 > 60
  · simp [c1, c2]
  by_cases c3 : a2 > 6
  · simp [c1, c2, c3]
  by_cases c4 : (F.length : Int) > 30
  · simp [c4]
  by_cases c5 : (O.length : Int) > 300
  · simp [c5]
  by_cases c6 : (E.length : Int) > 30
  · simp [c6]
  rw [if_neg c1, if_neg c2, if_neg c3, if_neg c4, if_neg c5, decide_eq_false c1, decide_eq_false c2, decide_eq_false c3, decide_eq_false c4, decide_eq_false c5, decide_eq_false c6]
  cases b1 <;> cases b2 <;> rfl
theorem check_f (k : Nat) (hE : E.length < 2 ^ 62) (hF : F.length < 2 ^ 62) (hO : O.length < 2 ^ 62) : program_Program_Check.f (k + 1 + O.length + 1 + F.length + 1 + E.length + 1 + 1) a0 a1 a2 (F.map oF) E (O.map oO) = some (verdict a0 a1 a2 F E O) := by
  have go : ∀ x, program_Program_Check.j0 (k + 1 + O.length + 1 + F.length + 1 + E.length + 1 + 1) x a0 a1 a2 (F.map oF) E (O.map oO) = some (if (((x && E.all (inb F.length)) && F.all (okF a0)) && O.all (okO a0 a1 a2 F.length)) = true then 0 else 12) := fun x => by
    simp only [program_Program_Check.j0]
    have h0 := own_l0 a0 a1 a2 F E O hE E.length _ (k + 1 + O.length + 1 + F.length + 1) 0 x (by omega) rfl
    have h1 := own_l1 a0 a1 a2 F E O hF F.length _ (k + 1 + O.length + 1) 0 (x && E.all (inb F.length)) (by omega) rfl
    have h2 := own_l2 a0 a1 a2 F E O hO O.length _ k 0 ((x && E.all (inb F.length)) && F.all (okF a0)) (by omega) rfl
    simp only [Int.ofNat_zero, Int.natCast_zero, List.drop_zero] at h0 h1 h2
    rw [h0, h1, h2]
  unfold program_Program_Check.f
  rw [big_f, is_f _ E hE (by omega), Option.bind_some, Option.bind_some]
  simp only [go]
  unfold verdict Good
  by_cases cb : Big a0 a1 a2 F E O = true
  · rw [if_pos cb, if_pos cb]
  rw [if_neg cb, if_neg cb]
  by_cases c0 : a0 ≥ 0
  · rw [if_pos c0, decide_eq_true c0]
    by_cases c1 : a1 ≥ 0
    · rw [if_pos c1, decide_eq_true c1]
      by_cases c2 : a2 ≥ 0
      · rw [if_pos c2, decide_eq_true c2]; rfl
      · rw [if_neg c2, decide_eq_false c2]; rfl
    · rw [if_neg c1, decide_eq_false c1]; rfl
  · rw [if_neg c0, decide_eq_false c0]; rfl
theorem ref_l4 (hl : O.length < 2 ^ 62) (hO : ∀ o ∈ O, o.f5.length < 41 ∧ o.f6 < 18446744073709551616) (d : Nat) : ∀ (K k i : Nat), O.length - i = d → K = k + 60 + d + 1 → dowserref15_Check.l4 K O (O.length : Int) (i : Int) a0 a1 a2 F E O = some (if (O.drop i).all (okO a0 a1 a2 F.length) = true then 0 else 12) := by
  induction d with
  | zero =>
    intro K k i hd hK
    obtain rfl : K = k + 60 + 1 := by omega
    rw [dowserref15_Check.l4, if_neg (by omega), List.drop_eq_nil_of_le (by omega), List.all_nil]
    rfl
  | succ d ih =>
    intro K k i hd hK
    obtain ⟨M, rfl⟩ : ∃ m, K = m + 1 := ⟨k + 60 + d + 1, by omega⟩
    rw [dowserref15_Check.l4]
    obtain ⟨K, rfl⟩ : ∃ m, M = m + 8 := ⟨k + 60 + d - 7, by omega⟩
    have hi : i < O.length := by omega
    have hm := hO _ (List.getElem_mem hi)
    rw [if_pos (by omega), if_pos (by omega), if_pos (by omega), at53 O i hi, w_succ (by omega), rop_f K a0 a1 a2 F E O O[i] (by omega) (by omega) hm.2, Option.bind_some, drop_all O _ i hi, ih (K + 8) k (i + 1) (by omega) (by omega)]
    cases okO a0 a1 a2 F.length O[i] <;> rfl
theorem ref_l3 (hl : F.length < 2 ^ 62) (hF : ∀ f ∈ F, f.f0.length < 41) (d : Nat) : ∀ (K k i : Nat), F.length - i = d → K = k + 60 + d + 1 → dowserref15_Check.l3 K F (F.length : Int) (i : Int) a0 a1 a2 F E O = if (F.drop i).all (okF a0) = true then dowserref15_Check.l4 (k + 60) O (O.length : Int) 0 a0 a1 a2 F E O else some 12 := by
  induction d with
  | zero =>
    intro K k i hd hK
    obtain rfl : K = k + 60 + 1 := by omega
    rw [dowserref15_Check.l3, if_neg (by omega), List.drop_eq_nil_of_le (by omega), List.all_nil, if_pos rfl]
  | succ d ih =>
    intro K k i hd hK
    obtain ⟨K, rfl⟩ : ∃ m, K = m + 1 := ⟨k + 60 + d + 1, by omega⟩
    rw [dowserref15_Check.l3]
    have hi : i < F.length := by omega
    have hm := hF _ (List.getElem_mem hi)
    rw [if_pos (by omega), if_pos (by omega), if_pos (by omega), at52 F i hi, w_succ (by omega), vars_f K _ a0 (by omega) (by omega), in_f, Option.bind_some, Option.bind_some, drop_all F _ i hi, ih K k (i + 1) (by omega) (by omega)]
    unfold okF ans
    cases F[i].f0.all (inb a0)
    · rfl
    · cases inb a0 F[i].f1
      · by_cases c : F[i].f1 = -1
        · rw [if_pos rfl, if_neg (by simp), if_pos c, decide_eq_true c]; rfl
        · rw [if_pos rfl, if_neg (by simp), if_neg c, decide_eq_false c]; rfl
      · rw [if_pos rfl, if_pos rfl]; simp
noncomputable def entB (i : Nat) : Bool := pb (∀ j, i ≤ j → j < E.length → inb F.length (rd E (j : Int)) = true ∧ (0 < j → rd E ((j - 1 : Nat) : Int) < rd E (j : Int)))
theorem ent_at (i : Nat) (hi : i < E.length) : entB F E i = true ↔ (inb F.length (rd E (i : Int)) = true ∧ (0 < i → rd E ((i - 1 : Nat) : Int) < rd E (i : Int))) ∧ entB F E (i + 1) = true := by
  unfold entB
  rw [pb_iff, pb_iff]
  refine ⟨fun h => ⟨h i (Nat.le_refl _) hi, fun j hj hl => h j (by omega) hl⟩, fun h j hj hl => ?_⟩
  by_cases e : j = i
  · rw [e]; exact h.1
  · exact h.2 j (by omega) hl
theorem ref_l2 (hl : E.length < 2 ^ 62) (d : Nat) : ∀ (K k i : Nat), E.length - i = d → K = k + d + 1 → dowserref15_Check.l2 K E (E.length : Int) (i : Int) a0 a1 a2 F E O = if entB F E i = true then dowserref15_Check.l3 k F (F.length : Int) 0 a0 a1 a2 F E O else some 12 := by
  induction d with
  | zero =>
    intro K k i hd hK
    obtain rfl : K = k + 1 := by omega
    rw [dowserref15_Check.l2, if_neg (by omega), if_pos (show entB F E i = true from pb_true (fun j hj hl => by omega))]
  | succ d ih =>
    intro K k i hd hK
    obtain ⟨K, rfl⟩ : ∃ m, K = m + 1 := ⟨k + d + 1, by omega⟩
    rw [dowserref15_Check.l2]
    have hi : i < E.length := by omega
    rw [if_pos (by omega), if_pos (by omega), if_pos (by omega), w_succ (by omega), in_f, Option.bind_some, ih K k (i + 1) (by omega) (by omega)]
    have hc := ent_at F E i hi
    by_cases c1 : inb F.length (rd E (i : Int)) = true
    · rw [if_pos c1]
      by_cases c2 : (i : Int) > 0
      · rw [if_pos c2, w_pred (by omega) (by omega), if_pos (by omega), if_pos (by omega)]
        by_cases c3 : rd E ((i - 1 : Nat) : Int) ≥ rd E (i : Int)
        · rw [if_pos c3, if_neg (fun h => by have := (hc.1 h).1.2 (by omega); omega)]
        · rw [if_neg c3]
          by_cases c4 : entB F E (i + 1) = true
          · rw [if_pos c4, if_pos (hc.2 ⟨⟨c1, fun _ => by omega⟩, c4⟩)]
          · rw [if_neg c4, if_neg (fun h => c4 (hc.1 h).2)]
      · rw [if_neg c2]
        by_cases c4 : entB F E (i + 1) = true
        · rw [if_pos c4, if_pos (hc.2 ⟨⟨c1, fun h => by omega⟩, c4⟩)]
        · rw [if_neg c4, if_neg (fun h => c4 (hc.1 h).2)]
    · rw [if_neg c1, if_neg (fun h => c1 (hc.1 h).1.1)]
def tail (k : Nat) : Option Int := if a0 < 0 then (dowserref15_Check.j3 k true a0 a1 a2 F E O) else (if a1 < 0 then (dowserref15_Check.j3 k true a0 a1 a2 F E O) else (dowserref15_Check.j3 k (decide (a2 < 0)) a0 a1 a2 F E O))
theorem ref_l1 (hl : O.length < 2 ^ 62) (d : Nat) : ∀ (K k i : Nat), O.length - i = d → K = k + d + 1 → dowserref15_Check.l1 K O (O.length : Int) (i : Int) a0 a1 a2 F E O = if (O.drop i).any (fun x => decide (6 < x.f5.length)) = true then some 4 else tail a0 a1 a2 F E O k := by
  induction d with
  | zero =>
    intro K k i hd hK
    obtain rfl : K = k + 1 := by omega
    rw [dowserref15_Check.l1, if_neg (by omega), List.drop_eq_nil_of_le (by omega), List.any_nil]
    rfl
  | succ d ih =>
    intro K k i hd hK
    obtain ⟨K, rfl⟩ : ∃ m, K = m + 1 := ⟨k + d + 1, by omega⟩
    rw [dowserref15_Check.l1]
    have hi : i < O.length := by omega
    rw [if_pos (by omega), if_pos (by omega), if_pos (by omega), at53 O i hi, w_succ (by omega), ih K k (i + 1) (by omega) (by omega), drop_any O _ i hi]
    by_cases c : 6 < O[i].f5.length
    · rw [if_pos (by omega), decide_eq_true c]; rfl
    · rw [if_neg (by omega), decide_eq_false c]; rfl
theorem ref_l0 (hl : F.length < 2 ^ 62) (d : Nat) : ∀ (K k i : Nat), F.length - i = d → K = k + d + 1 → dowserref15_Check.l0 K F (F.length : Int) (i : Int) a0 a1 a2 F E O = if (F.drop i).any (fun x => decide (6 < x.f0.length)) = true then some 4 else dowserref15_Check.l1 k O (O.length : Int) 0 a0 a1 a2 F E O := by
  induction d with
  | zero =>
    intro K k i hd hK
    obtain rfl : K = k + 1 := by omega
    rw [dowserref15_Check.l0, if_neg (by omega), List.drop_eq_nil_of_le (by omega), List.any_nil]
    rfl
  | succ d ih =>
    intro K k i hd hK
    obtain ⟨K, rfl⟩ : ∃ m, K = m + 1 := ⟨k + d + 1, by omega⟩
    rw [dowserref15_Check.l0]
    have hi : i < F.length := by omega
    rw [if_pos (by omega), if_pos (by omega), if_pos (by omega), at52 F i hi, w_succ (by omega), ih K k (i + 1) (by omega) (by omega), drop_any F _ i hi]
    by_cases c : 6 < F[i].f0.length
    · rw [if_pos (by omega), decide_eq_true c]; rfl
    · rw [if_neg (by omega), decide_eq_false c]; rfl
theorem ent_all : entB F E 0 = (pb (Rise E 1) && E.all (inb F.length)) := by
  rw [all_rd]
  refine (eq_pb ?_).symm
  rw [Bool.and_eq_true, pb_iff, pb_iff]
  refine ⟨fun h j _ hl => ⟨h.2 j hl, fun h0 => h.1 j (by omega) hl⟩, fun h => ⟨fun j hj hl => (h j (by omega) hl).2 (by omega), fun j hl => (h j (by omega) hl).1⟩⟩
theorem rcheck_f (k : Nat) (hE : E.length < 2 ^ 62) (hF : F.length < 2 ^ 62) (hO : O.length < 2 ^ 62) (hF2 : ∀ f ∈ F, f.f0.length < 41) (hO2 : ∀ o ∈ O, o.f5.length < 41 ∧ o.f6 < 18446744073709551616) : dowserref15_Check.f (k + 60 + O.length + 1 + F.length + 1 + E.length + 1 + 1 + O.length + 1 + F.length + 1 + 1) a0 a1 a2 F E O = some (verdict a0 a1 a2 F E O) := by
  have hT : tail a0 a1 a2 F E O (k + 60 + O.length + 1 + F.length + 1 + E.length + 1 + 1) = some (if Good a0 a1 a2 F E O = true then 0 else 12) := by
    have h2 := ref_l2 a0 a1 a2 F E O hE E.length _ (k + 60 + O.length + 1 + F.length + 1) 0 (by omega) rfl
    have h3 := ref_l3 a0 a1 a2 F E O hF hF2 F.length (k + 60 + O.length + 1 + F.length + 1) (k + O.length + 1) 0 (by omega) (by omega)
    have h4 := ref_l4 a0 a1 a2 F E O hO hO2 O.length (k + O.length + 1 + 60) k 0 (by omega) (by omega)
    simp only [Int.ofNat_zero, Int.natCast_zero, List.drop_zero] at h2 h3 h4
    unfold tail
    simp only [dowserref15_Check.j3]
    rw [h2, h3, h4, ent_all]
    unfold Good
    by_cases c0 : a0 < 0
    · rw [if_pos c0, if_pos trivial, decide_eq_false (show ¬ a0 ≥ 0 by omega)]; rfl
    rw [if_neg c0, decide_eq_true (show a0 ≥ 0 by omega)]
    by_cases c1 : a1 < 0
    · rw [if_pos c1, if_pos trivial, decide_eq_false (show ¬ a1 ≥ 0 by omega)]; rfl
    rw [if_neg c1, decide_eq_true (show a1 ≥ 0 by omega)]
    by_cases c2 : a2 < 0
    · rw [decide_eq_true c2, if_pos rfl, decide_eq_false (show ¬ a2 ≥ 0 by omega)]; rfl
    rw [decide_eq_false c2, decide_eq_true (show a2 ≥ 0 by omega)]
    cases pb (Rise E 1) <;> cases E.all (inb F.length) <;> cases F.all (okF a0) <;> cases O.all (okO a0 a1 a2 F.length) <;> rfl
  have hJ : ∀ x, dowserref15_Check.j0 (k + 60 + O.length + 1 + F.length + 1 + E.length + 1 + 1 + O.length + 1 + F.length + 1 + 1) x a0 a1 a2 F E O = if (x || (F.any (fun x => decide (6 < x.f0.length)) || O.any (fun x => decide (6 < x.f5.length)))) = true then some 4 else some (if Good a0 a1 a2 F E O = true then 0 else 12) := fun x => by
    have h0 := ref_l0 a0 a1 a2 F E O hF F.length _ (k + 60 + O.length + 1 + F.length + 1 + E.length + 1 + 1 + O.length + 1) 0 (by omega) rfl
    have h1 := ref_l1 a0 a1 a2 F E O hO O.length _ (k + 60 + O.length + 1 + F.length + 1 + E.length + 1 + 1) 0 (by omega) rfl
    simp only [Int.ofNat_zero, Int.natCast_zero, List.drop_zero] at h0 h1
    simp only [dowserref15_Check.j0]
    rw [h0, h1, hT]
    cases x <;> cases F.any (fun x => decide (6 < x.f0.length)) <;> cases O.any (fun x => decide (6 < x.f5.length)) <;> rfl
  unfold dowserref15_Check.f
  simp only [hJ]
  unfold verdict Big
  generalize F.any _ = b1
  generalize O.any _ = b2
  by_cases c1 : a0 > 200
  · simp [c1]
  by_cases c2 : a1 > 60
  · simp [c1, c2]
  by_cases c3 : a2 > 6
  · simp [c1, c2, c3]
  by_cases c4 : (F.length : Int) > 30
  · simp [c4]
  by_cases c5 : (O.length : Int) > 300
  · simp [c5]
  by_cases c6 : (E.length : Int) > 30
  · simp [c6]
  rw [if_neg c1, if_neg c2, if_neg c3, if_neg c4, if_neg c5, decide_eq_false c1, decide_eq_false c2, decide_eq_false c3, decide_eq_false c4, decide_eq_false c5, decide_eq_false c6]
  cases b1 <;> cases b2 <;> rfl
theorem made_l1 (r0 r1 r2 : Int) (r3 : List S45) (r4 : List Int) (hl : O.length < 1000000) (hO : ∀ o ∈ O, o.f5.length < 41) (d : Nat) : ∀ (K k i : Nat) (acc : List S42), O.length - i = d → K = k + d + 1 → acc.length ≤ i → dowserlaw15_Own.l1 K O (O.length : Int) (i : Int) r0 r1 r2 r3 r4 acc = some (r0, r1, r2, r3, r4, acc ++ (O.drop i).map oO) := by
  induction d with
  | zero =>
    intro K k i acc hd hK ha
    obtain rfl : K = k + 1 := by omega
    rw [dowserlaw15_Own.l1, if_neg (by omega), List.drop_eq_nil_of_le (by omega), List.map_nil, List.append_nil]
  | succ d ih =>
    intro K k i acc hd hK ha
    obtain ⟨K, rfl⟩ : ∃ m, K = m + 1 := ⟨k + d + 1, by omega⟩
    rw [dowserlaw15_Own.l1]
    have hi : i < O.length := by omega
    have hm := hO _ (List.getElem_mem hi)
    rw [if_pos (by omega), if_pos (by omega), if_pos (by omega), at53 O i hi, w_succ (by omega), Option.bind_some, if_pos (by simp only [List.length_nil]; omega), if_pos (by omega), ih K k (i + 1) _ (by omega) (by omega) (by rw [List.length_append, List.length_singleton]; omega), List.drop_eq_getElem_cons hi, List.map_cons, List.append_assoc]
    rfl
theorem made_l0 (hl : F.length < 1000000) (hF : ∀ f ∈ F, f.f0.length < 41) (b0 b1 b2 r0 r1 r2 : Int) (F' : List S52) (E' r4 : List Int) (d : Nat) : ∀ (K k i : Nat) (acc : List S45), F.length - i = d → K = k + d + 1 → acc.length ≤ i → dowserlaw15_Own.l0 K F (F.length : Int) (i : Int) b0 b1 b2 F' E' O r0 r1 r2 acc r4 = dowserlaw15_Own.l1 k O (O.length : Int) 0 r0 r1 r2 (acc ++ (F.drop i).map oF) r4 [] := by
  induction d with
  | zero =>
    intro K k i acc hd hK ha
    obtain rfl : K = k + 1 := by omega
    rw [dowserlaw15_Own.l0, if_neg (by omega), List.drop_eq_nil_of_le (by omega), List.map_nil, List.append_nil]
  | succ d ih =>
    intro K k i acc hd hK ha
    obtain ⟨K, rfl⟩ : ∃ m, K = m + 1 := ⟨k + d + 1, by omega⟩
    rw [dowserlaw15_Own.l0]
    have hi : i < F.length := by omega
    have hm := hF _ (List.getElem_mem hi)
    rw [if_pos (by omega), if_pos (by omega), if_pos (by omega), at52 F i hi, w_succ (by omega), Option.bind_some, if_pos (by simp only [List.length_nil]; omega), if_pos (by omega), ih K k (i + 1) _ (by omega) (by omega) (by rw [List.length_append, List.length_singleton]; omega), List.drop_eq_getElem_cons hi, List.map_cons, List.append_assoc]
    rfl
theorem made_f (k : Nat) (hE : E.length < 1000000) (hF : F.length < 1000000) (hO : O.length < 1000000) (hF2 : ∀ f ∈ F, f.f0.length < 41) (hO2 : ∀ o ∈ O, o.f5.length < 41) : dowserlaw15_Own.f (k + O.length + 1 + F.length + 1) a0 a1 a2 F E O = some (a0, a1, a2, F.map oF, E, O.map oO) := by
  have h0 := made_l0 F O hF hF2 a0 a1 a2 a0 a1 a2 F E E F.length _ (k + O.length + 1) 0 [] (by omega) rfl (Nat.le_refl _)
  have h1 := made_l1 O a0 a1 a2 (F.map oF) E hO hO2 O.length _ k 0 [] (by omega) rfl (Nat.le_refl _)
  simp only [Int.ofNat_zero, Int.natCast_zero, List.drop_zero, List.nil_append] at h0 h1
  unfold dowserlaw15_Own.f
  rw [Option.bind_some, if_pos (by simp only [List.length_nil]; omega), List.nil_append, h0, h1]
end own
theorem up {α : Type} {g : Nat → Option α} (hm : ∀ k, LeO (g k) (g (k + 1))) {k k' : Nat} {r : α} (h : g k = some r) (hk : k ≤ k') : g k' = some r := by
  obtain ⟨n, rfl⟩ := Nat.le.dest hk
  induction n with
  | zero => exact h
  | succ n ih => exact hm _ _ (ih (by omega))
end Go.Proofs.Ytgfjjhfkgfnpaaa.ProgCheck
