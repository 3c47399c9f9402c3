/- Sums of heats: both ways alike; with a nought below the same; with no number none; both ends together none. Condition: bits of 64. -/
import Derived.Test.YtiikmomjggcdfaaPAx11
import Derived.Test.YtiikmomjggcdfaaPAx14
import Derived.Test.YtiikmomjggcdfaaPAx4
import Derived.Test.YtiikmomjggcdfaaFlt
import Derived.Laws.FloatBits
namespace Go.Proofs.Ytiikmomjggcdfaa.FltAdd
open Go.RowKit Go.Proofs.Ytiikmomjggcdfaa.PA Go.Proofs.Ytiikmomjggcdfaa.Flt Go.Proofs.YtiikmomjggcdfaaW.PrintWords Go.Proofs.YtiikmomjggcdfaaW.PrintLast
set_option linter.unusedVariables false
theorem sum_comm (x y : Ieee.Datum) : x.sum y = y.sum x := by
  cases x with
  | nan s t => cases y <;> rfl
  | infinity s =>
    cases y with
    | nan _ _ => rfl
    | infinity t =>
      simp only [Ieee.Datum.sum]
      by_cases h : s = t
      · subst h; rfl
      · rw [if_neg h, if_neg (fun e => h e.symm)]
    | number _ _ _ => rfl
  | number s m i =>
    cases y with
    | nan _ _ => rfl
    | infinity _ => rfl
    | number t n j =>
      simp only [Ieee.Datum.sum]
      rw [Int.min_comm i j, Int.add_comm (Ieee.signed s m _), Bool.and_comm s t]
theorem addN_comm (x y : Nat) : addN x y = addN y x := by
  have : Ieee.double.add x y = Ieee.double.add y x := by
    unfold Ieee.Format.add; rw [sum_comm]
  unfold addN; rw [this]
theorem addN_lt (x y : Nat) : addN x y < 18446744073709551616 := by
  unfold addN
  cases h : Ieee.double.add x y with
  | none => simp
  | some r => exact Ieee.double.add_lt h
theorem isNan_of {a : Nat} (ha : a < 18446744073709551616) (h : nan a) : isNan a := ⟨h, ha⟩
theorem addN_nan {a : Nat} (ha : a < 18446744073709551616) (h : nan a) (y : Nat) : addN a y = 9221120237041090561 := by
  unfold addN; rw [add_nan a y (isNan_of ha h)]
theorem canon_addN (u y : Nat) (hu : u < 18446744073709551616) : addN (canon u) y = addN u y := by
  unfold canon
  by_cases c : nan u
  · rw [if_pos c, addN_nan hu c, addN_nan (by omega) nan_canon]
  · rw [if_neg c]
theorem canon_canon (a : Nat) : canon (canon a) = canon a := by
  unfold canon
  by_cases c : nan a
  · rw [if_pos c, if_pos nan_canon]
  · rw [if_neg c, if_neg c]
theorem add_f (x y : Nat) : heat_Add.f x y = some (canon (addN x y)) := by unfold heat_Add.f; rw [canon_f]
/-! ### with nought below -/
abbrev L : Int := Ieee.double.leastPlace
theorem e1 : Ieee.double.signWeight = 9223372036854775808 := rfl
theorem e2 : Ieee.double.infRung = 9218868437227405312 := rfl
theorem e3 : Ieee.double.binade = 4503599627370496 := rfl
theorem e4 : Ieee.double.fractionBits = 52 := rfl
theorem cut_exact (neg : Bool) (m d : Nat) : Ieee.Toward.even.cut neg (m <<< d) d = m := by
  unfold Ieee.Toward.cut
  have hg : min d ((m <<< d).log2 + 2) = d ∨ m = 0 := by
    by_cases hm : m = 0
    · exact .inr hm
    · left
      have h0 : m <<< d ≠ 0 := by rw [Nat.shiftLeft_eq]; exact Nat.mul_ne_zero hm (Nat.ne_of_gt (Nat.two_pow_pos d))
      have h1 : d ≤ (m <<< d).log2 := by
        rw [Nat.le_log2 h0, Nat.shiftLeft_eq]
        exact Nat.le_mul_of_pos_left _ (Nat.pos_of_ne_zero hm)
      omega
  rcases hg with hg | hg
  · rw [hg]
    simp only
    rw [Nat.shiftLeft_eq, Nat.shiftLeft_eq, Nat.one_mul, Nat.mul_div_cancel _ (Nat.two_pow_pos d), Nat.mul_mod_left]
    have h1 : (decide (2 ^ d < 2 * 0)) = false := by simp
    have h2 : ((2 ^ d == 2 * 0) : Bool) = false := by
      rw [beq_eq_false_iff_ne]; have := Nat.two_pow_pos d; omega
    rw [h1, h2]; rfl
  · subst hg
    simp
theorem read_sub {a : Nat} (h : a % 9223372036854775808 < 4503599627370496) : Ieee.double.read a = .number (a / 9223372036854775808 % 2 == 1) (a % 9223372036854775808) L := by
  unfold Ieee.Format.read
  rw [e1, e3]
  simp only
  rw [if_pos h]
theorem read_norm {a : Nat} (h : ¬ a % 9223372036854775808 < 4503599627370496) (h2 : a % 9223372036854775808 < 9218868437227405312) : Ieee.double.read a = .number (a / 9223372036854775808 % 2 == 1) (4503599627370496 + a % 9223372036854775808 % 4503599627370496) (L + ((a % 9223372036854775808 / 4503599627370496 - 1 : Nat) : Int)) := by
  unfold Ieee.Format.read
  rw [e1, e2, e3]
  simp only
  rw [if_neg h, if_pos h2]
theorem word_is {a : Nat} (ha : a < 18446744073709551616) : Ieee.double.word (a / 9223372036854775808 % 2 == 1) (a % 9223372036854775808) = a := by
  unfold Ieee.Format.word
  rw [e1]
  by_cases s : 9223372036854775808 ≤ a
  · have : (a / 9223372036854775808 % 2 == 1) = true := by rw [beq_iff_eq]; omega
    rw [this, if_pos rfl]; omega
  · have : (a / 9223372036854775808 % 2 == 1) = false := by rw [beq_eq_false_iff_ne]; omega
    rw [this, if_neg (by decide)]; omega
theorem nearest_norm (neg : Bool) (m d : Nat) (h1 : 4503599627370496 ≤ m) (h2 : m < 9007199254740992) (hd : d * 4503599627370496 + m ≤ 9218868437227405312) : Ieee.double.nearest neg (m <<< d) L = Ieee.double.word neg (d * 4503599627370496 + m) := by
  unfold Ieee.Format.nearest
  have h0 : m <<< d ≠ 0 := by rw [Nat.shiftLeft_eq]; exact Nat.mul_ne_zero (by omega) (Nat.ne_of_gt (Nat.two_pow_pos d))
  rw [if_neg h0]
  have hlog : (m <<< d).log2 = 52 + d := by
    rw [Nat.log2_eq_iff h0, Nat.shiftLeft_eq]
    constructor
    · rw [Nat.pow_add]; exact Nat.mul_le_mul_right _ h1
    · rw [show 52 + d + 1 = 53 + d by omega, Nat.pow_add]; exact Nat.mul_lt_mul_of_pos_right h2 (Nat.two_pow_pos d)
  rw [hlog, e4, e3, e2]
  have hmax : max (Ieee.double.leastPlace + ((52 + d : Nat) : Int) - ((52 : Nat) : Int)) Ieee.double.leastPlace = L + (d : Int) := by
    show max (L + _ - _) L = _
    omega
  simp only [hmax]
  have ea : (L - (L + (d : Int))).toNat = 0 := by omega
  have eb : (L + (d : Int) - L).toNat = d := by omega
  rw [ea, eb, Nat.shiftLeft_zero, cut_exact, Nat.min_eq_left hd]
theorem nearest_sub (neg : Bool) (m : Nat) (h1 : m < 4503599627370496) : Ieee.double.nearest neg m L = Ieee.double.word neg m := by
  unfold Ieee.Format.nearest
  by_cases h0 : m = 0
  · rw [if_pos h0, h0]
  · rw [if_neg h0]
    have hlog : m.log2 < 52 := (Nat.log2_lt h0).mpr h1
    rw [e4, e3, e2]
    have hmax : max (Ieee.double.leastPlace + (m.log2 : Int) - ((52 : Nat) : Int)) Ieee.double.leastPlace = L := by
      show max (L + _ - _) L = _
      omega
    simp only [hmax]
    have ea : (L - L).toNat = 0 := by omega
    rw [ea, Nat.shiftLeft_zero]
    have hc := cut_exact neg m 0
    rw [Nat.shiftLeft_zero] at hc
    rw [hc]
    congr 1
    omega
theorem sum_nought (s : Bool) (m d : Nat) : (Ieee.Datum.number s m (L + (d : Int))).sum (.number true 0 L) = some (.number s (m <<< d) L) := by
  simp only [Ieee.Datum.sum]
  have hb : min (L + (d : Int)) L = L := by omega
  rw [hb]
  have ea : (L + (d : Int) - L).toNat = d := by omega
  have eb : (L - L).toNat = 0 := by omega
  rw [ea, eb]
  have ez : Ieee.signed true 0 0 = 0 := rfl
  rw [ez, Int.add_zero]
  congr 1
  unfold Ieee.signed
  generalize m <<< d = M
  cases s with
  | true =>
    simp only [if_true]
    by_cases h0 : M = 0
    · subst h0; rfl
    · rw [if_neg (by omega)]
      have : decide (-(M : Int) < 0) = true := decide_eq_true (by omega)
      rw [this]; congr 1; omega
  | false =>
    simp only [Bool.false_eq_true, if_false]
    by_cases h0 : M = 0
    · subst h0; rfl
    · rw [if_neg (by omega)]
      have : decide ((M : Int) < 0) = false := decide_eq_false (by omega)
      rw [this]; congr 1
theorem read_nought : Ieee.double.read 9223372036854775808 = .number true 0 L := rfl
theorem addN_nought {a : Nat} (ha : a < 18446744073709551616) : canon (addN a 9223372036854775808) = canon a := by
  by_cases c : nan a
  · rw [addN_nan ha c]; unfold canon; rw [if_pos c, if_pos nan_canon]
  · have key : Ieee.double.add a 9223372036854775808 = some a := by
      unfold Ieee.Format.add
      rw [read_nought]
      unfold nan at c
      by_cases c1 : a % 9223372036854775808 < 4503599627370496
      · rw [read_sub c1]
        have h := sum_nought (a / 9223372036854775808 % 2 == 1) (a % 9223372036854775808) 0
        rw [Int.ofNat_zero, Int.add_zero, Nat.shiftLeft_zero] at h
        rw [h, Option.map_some]
        congr 1
        show Ieee.double.nearest _ _ L = a
        rw [nearest_sub _ _ c1, word_is ha]
      · by_cases c2 : a % 9223372036854775808 < 9218868437227405312
        · rw [read_norm c1 c2, sum_nought, Option.map_some]
          congr 1
          show Ieee.double.nearest _ _ L = a
          rw [nearest_norm _ _ _ (by omega) (by omega) (by omega)]
          have : (a % 9223372036854775808 / 4503599627370496 - 1) * 4503599627370496 + (4503599627370496 + a % 9223372036854775808 % 4503599627370496) = a % 9223372036854775808 := by omega
          rw [this, word_is ha]
        · have hi : a % 9223372036854775808 = 9218868437227405312 := by omega
          rw [read_inf a hi]
          show some (Ieee.double.word _ Ieee.double.infRung) = some a
          rw [e2, ← hi, word_is ha]
    unfold addN; rw [key]
/-! ### both ends -/
theorem read_top : Ieee.double.read 9218868437227405311 = .number false 9007199254740991 (L + 2045) := rfl
theorem isInf_true {a : Nat} (ha : a < 18446744073709551616) (h : math_IsInf.f a 1 = some true) : a = 9218868437227405312 := by
  unfold math_IsInf.f at h
  rw [if_neg (by decide), if_neg (by decide)] at h
  have h1 := Option.some.inj h
  rw [beq_iff_eq] at h1
  have h2 : (Ieee.double.read a).order (Ieee.double.read 9218868437227405311) = some .gt := h1
  rw [read_top] at h2
  by_cases c : nan a
  · obtain ⟨s, t, hr⟩ := read_nan a c
    rw [hr] at h2; cases h2
  · unfold nan at c
    have num : ∀ (s : Bool) (m d : Nat), m ≤ 9007199254740991 → d ≤ 2045 → (Ieee.Datum.number s m (L + (d : Int))).order (.number false 9007199254740991 (L + 2045)) ≠ some .gt := by
      intro s m d hm hd hh
      simp only [Ieee.Datum.order] at hh
      have hb : min (L + (d : Int)) (L + 2045) = L + (d : Int) := by omega
      rw [hb] at hh
      have ea : (L + (d : Int) - (L + (d : Int))).toNat = 0 := by omega
      have eb : (L + 2045 - (L + (d : Int))).toNat = 2045 - d := by omega
      rw [ea, eb] at hh
      have hc := Option.some.inj hh
      rw [Int.compare_eq_gt] at hc
      unfold Ieee.signed at hc
      rw [Nat.shiftLeft_zero, if_neg (by decide), Nat.shiftLeft_eq] at hc
      have hp : 1 ≤ 2 ^ (2045 - d) := Nat.one_le_two_pow
      have hq : 9007199254740991 ≤ 9007199254740991 * 2 ^ (2045 - d) := Nat.le_mul_of_pos_right _ hp
      cases s with
      | true => rw [if_pos rfl] at hc; omega
      | false => rw [if_neg (by decide)] at hc; omega
    by_cases c1 : a % 9223372036854775808 < 4503599627370496
    · rw [read_sub c1] at h2
      have := num (a / 9223372036854775808 % 2 == 1) (a % 9223372036854775808) 0 (by omega) (by omega)
      rw [Int.ofNat_zero, Int.add_zero] at this
      exact absurd h2 this
    · by_cases c2 : a % 9223372036854775808 < 9218868437227405312
      · rw [read_norm c1 c2] at h2
        exact absurd h2 (num _ _ _ (by omega) (by omega))
      · have hi : a % 9223372036854775808 = 9218868437227405312 := by omega
        rw [read_inf a hi] at h2
        by_cases s : 9223372036854775808 ≤ a
        · have : (a / 9223372036854775808 % 2 == 1) = true := by rw [beq_iff_eq]; omega
          rw [this] at h2; cases h2
        · omega
theorem isInf_some (a : Nat) : ∃ b, math_IsInf.f a 1 = some b := by
  unfold math_IsInf.f
  rw [if_neg (by decide), if_neg (by decide)]
  exact ⟨_, rfl⟩
theorem ends : addN 9218868437227405312 18442240474082181120 = 9221120237041090561 := by decide
end Go.Proofs.Ytiikmomjggcdfaa.FltAdd
