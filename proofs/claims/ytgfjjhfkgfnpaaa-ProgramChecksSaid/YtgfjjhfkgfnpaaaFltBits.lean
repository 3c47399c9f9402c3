/- Heats as their bits: what Bits tells of them, in the program and in the document. Condition: bits of 64. -/
import Derived.Test.YtgfjjhfkgfnpaaaPBx2
import Derived.Test.YtgfjjhfkgfnpaaaPBx21
import Derived.Test.YtgfjjhfkgfnpaaaPBx22
import Derived.Test.YtgfjjhfkgfnpaaaPBx3
import Derived.Laws.BitsLemmas
namespace Go.Proofs.Ytgfjjhfkgfnpaaa.Flt
open Go.RowKit Go.Proofs.Ytgfjjhfkgfnpaaa.PB Go.Proofs.YtgfjjhfkgfnpaaaW.PrintWords Go.Proofs.YtgfjjhfkgfnpaaaW.PrintLast
set_option linter.unusedVariables false
theorem wrap_u64 (n : Int) : IntKind.u64.wrap n = n % 18446744073709551616 := by simp [IntKind.wrap, IntKind.bits, IntKind.signed]
def nan (a : Nat) : Prop := 9218868437227405312 < a % 9223372036854775808
instance (a : Nat) : Decidable (nan a) := by unfold nan; exact inferInstance
def canon (a : Nat) : Nat := if nan a then 9221120237041090561 else a
theorem read_nan (a : Nat) (h : nan a) : ∃ s t, Ieee.double.read a = .nan s t := by
  have e1 : Ieee.double.signWeight = 9223372036854775808 := rfl
  have e2 : Ieee.double.infRung = 9218868437227405312 := rfl
  have e3 : Ieee.double.binade = 4503599627370496 := rfl
  unfold nan at h
  unfold Ieee.Format.read
  rw [e1, e2, e3]
  simp only
  rw [if_neg (by omega), if_neg (by omega), if_neg (by omega)]
  exact ⟨_, _, rfl⟩
theorem read_inf (a : Nat) (h : a % 9223372036854775808 = 9218868437227405312) : Ieee.double.read a = .infinity (a / 9223372036854775808 % 2 == 1) := by
  have e1 : Ieee.double.signWeight = 9223372036854775808 := rfl
  have e2 : Ieee.double.infRung = 9218868437227405312 := rfl
  have e3 : Ieee.double.binade = 4503599627370496 := rfl
  unfold Ieee.Format.read
  rw [e1, e2, e3]
  simp only
  rw [if_neg (by omega), if_neg (by omega), if_pos h]
theorem read_num (a : Nat) (h : a % 9223372036854775808 < 9218868437227405312) : ∃ m e, Ieee.double.read a = .number (a / 9223372036854775808 % 2 == 1) m e := by
  have e1 : Ieee.double.signWeight = 9223372036854775808 := rfl
  have e2 : Ieee.double.infRung = 9218868437227405312 := rfl
  have e3 : Ieee.double.binade = 4503599627370496 := rfl
  unfold Ieee.Format.read
  rw [e1, e2, e3]
  simp only
  by_cases c1 : a % 9223372036854775808 < 4503599627370496
  · rw [if_pos c1]; exact ⟨_, _, rfl⟩
  · rw [if_neg c1, if_pos h]; exact ⟨_, _, rfl⟩
theorem order_self (a : Nat) : FloatKind.f64.format.order a a = if nan a then none else some .eq := by
  show (Ieee.double.read a).order (Ieee.double.read a) = _
  by_cases c : nan a
  · rw [if_pos c]
    obtain ⟨s, t, h⟩ := read_nan a c
    rw [h]; rfl
  · rw [if_neg c]
    unfold nan at c
    by_cases c2 : a % 9223372036854775808 = 9218868437227405312
    · rw [read_inf a c2]; simp [Ieee.Datum.order]
    · obtain ⟨m, e, h⟩ := read_num a (by omega)
      rw [h]; simp [Ieee.Datum.order]
theorem isNaN_f (a : Nat) : math_IsNaN.f a = some (decide (nan a)) := by
  unfold math_IsNaN.f
  rw [order_self a]
  by_cases c : nan a
  · rw [if_pos c]; simp [c]
  · rw [if_neg c]; simp [c]
theorem canon_f (a : Nat) : heat_Canon.f a = some (canon a) := by
  unfold heat_Canon.f canon
  rw [isNaN_f a, Option.bind_some]
  by_cases c : nan a
  · have h1 : decide (nan a) = true := decide_eq_true c
    rw [h1]
    rw [if_pos c, if_pos rfl]
    exact congrArg some (show (9221120237041090561 : Int).toNat = 9221120237041090561 by omega)
  · rw [if_neg (by simp [c]), if_neg c]
theorem bits_f (a : Nat) : heat_Bits.f a = some (canon a : Int) := by
  unfold heat_Bits.f; rw [canon_f a]; rfl
theorem not_f (a : Nat) (ha : a < 18446744073709551616) : dowserref03_Not.f a = some (decide (nan a)) := by
  unfold dowserref03_Not.f
  have e : IntKind.u64.wrap ((a : Int) / 4503599627370496) = ((a / 4503599627370496 : Nat) : Int) := by rw [wrap_u64]; omega
  have e2 : Int.tmod ((a / 4503599627370496 : Nat) : Int) 2048 = ((a / 4503599627370496 % 2048 : Nat) : Int) := rfl
  rw [e, e2]
  by_cases c : a / 4503599627370496 % 2048 = 2047
  · rw [if_pos (by omega)]
    congr 1
    rw [decide_eq_decide]
    unfold nan
    omega
  · rw [if_neg (by omega)]
    congr 1
    symm
    rw [decide_eq_false_iff_not]
    unfold nan
    omega
theorem rbits_f (a : Nat) (ha : a < 18446744073709551616) : dowserref03_Bits.f a = some (canon a : Int) := by
  unfold dowserref03_Bits.f canon
  rw [not_f a ha, Option.bind_some]
  by_cases c : nan a
  · simp [c]
  · simp [c]
end Go.Proofs.Ytgfjjhfkgfnpaaa.Flt
