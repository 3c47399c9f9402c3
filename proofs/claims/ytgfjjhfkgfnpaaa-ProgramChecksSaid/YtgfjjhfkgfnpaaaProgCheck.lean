/- Which programs may be: the program's Check and the document's, as plain words. Condition: lists of few members. -/
import Derived.Test.YtgfjjhfkgfnpaaaPBx10
import Derived.Test.YtgfjjhfkgfnpaaaPBx11
import Derived.Test.YtgfjjhfkgfnpaaaPBx20
import Derived.Test.YtgfjjhfkgfnpaaaPBx21
import Derived.Test.YtgfjjhfkgfnpaaaPBx23
import Derived.Test.YtgfjjhfkgfnpaaaPBx24
import Derived.Test.YtgfjjhfkgfnpaaaPBx5
import Derived.Test.YtgfjjhfkgfnpaaaPBx6
import Derived.Test.YtgfjjhfkgfnpaaaPBx7
import Derived.Test.YtgfjjhfkgfnpaaaPBx8
import Derived.Test.YtgfjjhfkgfnpaaaPBx9
import Derived.Test.YtgfjjhfkgfnpaaaFltBits
import Derived.Test.YtgfjjhfkgfnpaaaTools
namespace Go.Proofs.Ytgfjjhfkgfnpaaa.ProgCheck
open Go Go.RowKit Go.Proofs.Ytgfjjhfkgfnpaaa.PB Go.Proofs.YtgfjjhfkgfnpaaaW.PrintWords Go.Proofs.YtgfjjhfkgfnpaaaW.PrintLast Go.Proofs.YtgfjjhfkgfnpaaaW.PrintMore Go.Proofs.Ytgfjjhfkgfnpaaa.Flt Go.Proofs.Ytgfjjhfkgfnpaaa.Tools
set_option linter.unusedVariables false
set_option linter.unusedSimpArgs false
def inb (n x : Int) : Bool := decide (0 ≤ x) && decide (x < n)
theorem below_f (x n : Int) : program_below.f x n = some (inb n x) := by
  unfold program_below.f inb
  by_cases h : 0 ≤ x <;> simp [h]
theorem in_f (x n : Int) : dowserref15_in.f x n = some (inb n x) := by
  unfold dowserref15_in.f inb
  by_cases h : 0 ≤ x <;> simp [h]
def oF (x : S52) : S45 := ⟨x.f0, x.f1⟩
def oO (x : S53) : S42 := ⟨x.f0, x.f1, x.f2, x.f3, x.f4, x.f5, x.f6⟩
def ans (a0 x : Int) : Bool := decide (x = -1) || inb a0 x
def simp_ (l : List Int) (h : Nat) : Bool := decide ((l.length : Int) = 0) && ((canon h : Int) == 0)
def okF (a0 : Int) (x : S52) : Bool := x.f0.all (inb a0) && ans a0 x.f1
def okO (a0 a1 a2 n : Int) (x : S53) : Bool := inb n x.f1 && (
  if x.f0 = 1 then inb a0 x.f2 && (inb a1 x.f3 && (decide (x.f4 = 0) && simp_ x.f5 x.f6))
  else if x.f0 = 2 then inb a0 x.f2 && (inb a0 x.f3 && (decide (x.f4 = 0) && simp_ x.f5 x.f6))
  else if x.f0 = 3 then inb a0 x.f2 && (inb a0 x.f3 && (inb a2 x.f4 && simp_ x.f5 x.f6))
  else if x.f0 = 4 then inb a0 x.f2 && (inb a0 x.f3 && (inb a2 x.f4 && simp_ x.f5 x.f6))
  else if x.f0 = 5 then inb a0 x.f2 && (inb n x.f3 && (decide (x.f4 = 0) && simp_ x.f5 x.f6))
  else if x.f0 = 6 then ans a0 x.f2 && (inb n x.f3 && (decide (x.f4 = 0) && x.f5.all (inb a0)))
  else if x.f0 = 7 then ans a0 x.f2 && (inb a0 x.f3 && (decide (x.f4 = 0) && x.f5.all (inb a0)))
  else false)
theorem answer_f (a0 a1 a2 : Int) (F : List S45) (E : List Int) (O : List S42) (x : Int) : program_Program_answer.f a0 a1 a2 F E O x = some (ans a0 x) := by
  unfold program_Program_answer.f ans
  rw [below_f]
  by_cases h : x = -1 <;> simp [h]
theorem simple_f (b0 b1 b2 b3 b4 : Int) (l : List Int) (h : Nat) : program_Op_simple.f b0 b1 b2 b3 b4 l h = some (simp_ l h) := by
  unfold program_Op_simple.f simp_
  rw [bits_f]
  by_cases c : (l.length : Int) = 0
  · rw [if_pos c, decide_eq_true c, Bool.true_and]; rfl
  · rw [if_neg c, decide_eq_false c, Bool.false_and]
theorem variables_f (a0 a1 a2 : Int) (F : List S45) (E : List Int) (O : List S42) (l : List Int) : program_Program_variables.f a0 a1 a2 F E O l = some (l.all (inb a0)) := rfl
theorem op_f (k : Nat) (a0 a1 a2 : Int) (F : List S45) (E : List Int) (O : List S42) (x : S53) : program_Program_op.f (k + 1) a0 a1 a2 F E O x.f0 x.f1 x.f2 x.f3 x.f4 x.f5 x.f6 = some (okO a0 a1 a2 F.length x) := by
  obtain ⟨o0, o1, o2, o3, o4, l, h⟩ := x
  unfold program_Program_op.f okO
  simp only [below_f, answer_f, simple_f, variables_f, program_Program_op.j0, Option.bind_some]
  generalize inb (F.length : Int) o1 = b1
  generalize inb a0 o2 = b2
  generalize inb a0 o3 = b3
  generalize inb a2 o4 = b4
  generalize inb (F.length : Int) o3 = b5
  generalize inb a1 o3 = b6
  generalize ans a0 o2 = b7
  generalize simp_ l h = b8
  generalize l.all (inb a0) = b9
  cases b1 with
  | false => rfl
  | true =>
    rw [if_pos rfl, Bool.true_and]
    by_cases c1 : o0 = 1
    · subst c1; cases b2 <;> cases b6 <;> by_cases c : o4 = 0 <;> simp [c]
    by_cases c2 : o0 = 2
    · subst c2; cases b2 <;> cases b3 <;> by_cases c : o4 = 0 <;> simp [c]
    by_cases c3 : o0 = 3
    · subst c3; cases b2 <;> cases b3 <;> cases b4 <;> simp
    by_cases c4 : o0 = 4
    · subst c4; cases b2 <;> cases b3 <;> cases b4 <;> simp
    by_cases c5 : o0 = 5
    · subst c5; cases b2 <;> cases b5 <;> by_cases c : o4 = 0 <;> simp [c]
    by_cases c6 : o0 = 6
    · subst c6; cases b7 <;> cases b5 <;> by_cases c : o4 = 0 <;> simp [c]
    by_cases c7 : o0 = 7
    · subst c7; cases b7 <;> cases b3 <;> by_cases c : o4 = 0 <;> simp [c]
    simp [c1, c2, c3, c4, c5, c6, c7]
theorem drop_all {α : Type} (l : List α) (p : α → Bool) (i : Nat) (hi : i < l.length) : (l.drop i).all p = (p l[i] && (l.drop (i + 1)).all p) := by rw [List.drop_eq_getElem_cons hi, List.all_cons]
theorem drop_any {α : Type} (l : List α) (p : α → Bool) (i : Nat) (hi : i < l.length) : (l.drop i).any p = (p l[i] || (l.drop (i + 1)).any p) := by rw [List.drop_eq_getElem_cons hi, List.any_cons]
theorem at_i (l : List Int) (i : Nat) (hi : i < l.length) : rd l (i : Int) = l[i] := by unfold rd; rw [Int.toNat_natCast, List.getD_eq_getElem?_getD, List.getElem?_eq_getElem hi]; rfl
theorem at52 (l : List S52) (i : Nat) (hi : i < l.length) : rd_T52 l (i : Int) = l[i] := by unfold rd_T52; rw [Int.toNat_natCast, List.getD_eq_getElem?_getD, List.getElem?_eq_getElem hi]; rfl
theorem at53 (l : List S53) (i : Nat) (hi : i < l.length) : rd_T53 l (i : Int) = l[i] := by unfold rd_T53; rw [Int.toNat_natCast, List.getD_eq_getElem?_getD, List.getElem?_eq_getElem hi]; rfl
theorem at45 (l : List S45) (i : Nat) (hi : i < l.length) : rd_T45 l (i : Int) = l[i] := by unfold rd_T45; rw [Int.toNat_natCast, List.getD_eq_getElem?_getD, List.getElem?_eq_getElem hi]; rfl
theorem at42 (l : List S42) (i : Nat) (hi : i < l.length) : rd_T42 l (i : Int) = l[i] := by unfold rd_T42; rw [Int.toNat_natCast, List.getD_eq_getElem?_getD, List.getElem?_eq_getElem hi]; rfl
theorem vars_l (l : List Int) (a0 : Int) (hl : l.length < 2 ^ 62) (d : Nat) : ∀ (K i : Nat), l.length - i = d → d < K → dowserref15_vars.l0 K a0 l (l.length : Int) (i : Int) = some ((l.drop i).all (inb a0)) := by
  induction d with
  | zero =>
    intro K i hd hK
    obtain ⟨K, rfl⟩ : ∃ m, K = m + 1 := ⟨K - 1, by omega⟩
    simp only [dowserref15_vars.l0]
    rw [if_neg (by omega), List.drop_eq_nil_of_le (by omega)]; rfl
  | succ d ih =>
    intro K i hd hK
    obtain ⟨K, rfl⟩ : ∃ m, K = m + 1 := ⟨K - 1, by omega⟩
    simp only [dowserref15_vars.l0]
    rw [if_pos (by omega), if_pos (by omega), if_pos (by omega), in_f, Option.bind_some, at_i l i (by omega), drop_all l _ i (by omega), w_succ (by omega), ih K (i + 1) (by omega) (by omega)]
    cases inb a0 l[i] <;> rfl
theorem vars_f (k : Nat) (l : List Int) (a0 : Int) (hl : l.length < 2 ^ 62) (hk : l.length < k) : dowserref15_vars.f k l a0 = some (l.all (inb a0)) := by
  have := vars_l l a0 hl _ k 0 rfl (by omega)
  unfold dowserref15_vars.f
  simpa using this
theorem rop_f (k : Nat) (a0 a1 a2 : Int) (F : List S52) (E : List Int) (O : List S53) (x : S53) (hl : x.f5.length < k) (hl2 : x.f5.length < 2 ^ 62) (hw : x.f6 < 18446744073709551616) : dowserref15_op.f (k + 8) a0 a1 a2 F E O x.f0 x.f1 x.f2 x.f3 x.f4 x.f5 x.f6 = some (okO a0 a1 a2 F.length x) := by
  obtain ⟨o0, o1, o2, o3, o4, l, h⟩ := x
  simp only at hl hl2 hw
  unfold dowserref15_op.f okO
  simp only [dowserref15_op.j0, dowserref15_op.j1, dowserref15_op.j2, dowserref15_op.j3, dowserref15_op.j4, dowserref15_op.j5, dowserref15_op.j6, dowserref15_op.j7, in_f, vars_f k l a0 hl2 hl, rbits_f h hw, Option.bind_some]
  unfold simp_ ans
  generalize hb1 : inb (F.length : Int) o1 = b1
  generalize hb2 : inb a0 o2 = b2
  generalize hb3 : inb a0 o3 = b3
  generalize hb4 : inb a2 o4 = b4
  generalize hb5 : inb (F.length : Int) o3 = b5
  generalize hb6 : inb a1 o3 = b6
  generalize l.all (inb a0) = b9
  generalize ((canon h : Int) == 0) = b8
  generalize (l.length : Int) = n
  by_cases c1 : o0 = 1
  · subst c1; cases b1 <;> cases b2 <;> cases b6 <;> by_cases c : o4 = 0 <;> by_cases c' : n = 0 <;> simp [c', c, hb1, hb2, hb3, hb4, hb5, hb6]
  by_cases c2 : o0 = 2
  · subst c2; cases b1 <;> cases b2 <;> cases b3 <;> by_cases c : o4 = 0 <;> by_cases c' : n = 0 <;> simp [c', c, hb1, hb2, hb3, hb4, hb5, hb6]
  by_cases c3 : o0 = 3
  · subst c3; cases b1 <;> cases b2 <;> cases b3 <;> cases b4 <;> by_cases c' : n = 0 <;> simp [c', hb1, hb2, hb3, hb4, hb5, hb6]
  by_cases c4 : o0 = 4
  · subst c4; cases b1 <;> cases b2 <;> cases b3 <;> cases b4 <;> by_cases c' : n = 0 <;> simp [c', hb1, hb2, hb3, hb4, hb5, hb6]
  by_cases c5 : o0 = 5
  · subst c5; cases b1 <;> cases b2 <;> cases b5 <;> by_cases c : o4 = 0 <;> by_cases c' : n = 0 <;> simp [c', c, hb1, hb2, hb3, hb4, hb5, hb6]
  by_cases c6 : o0 = 6
  · subst c6; cases b1 <;> cases b2 <;> cases b5 <;> by_cases c : o4 = 0 <;> by_cases c'' : o2 = -1 <;> simp [c, c'', hb1, hb2, hb3, hb4, hb5, hb6]
  by_cases c7 : o0 = 7
  · subst c7; cases b1 <;> cases b2 <;> cases b3 <;> by_cases c : o4 = 0 <;> by_cases c'' : o2 = -1 <;> simp [c, c'', hb1, hb2, hb3, hb4, hb5, hb6]
  have : o0 < 1 ∨ o0 > 7 := by omega
  rcases this with h | h
  · simp [c1, c2, c3, c4, c5, c6, c7, h]
  · have h2 : ¬ o0 < 1 := by omega
    simp [c1, c2, c3, c4, c5, c6, c7, h, h2]
end Go.Proofs.Ytgfjjhfkgfnpaaa.ProgCheck
