/- Heats as their bits: what Key, Bits, Compare and From tell of them, in the program and in the document. Condition: bits of 64. -/
import Derived.Test.YtiikmomjggcdfaaPAx1
import Derived.Test.YtiikmomjggcdfaaPAx11
import Derived.Test.YtiikmomjggcdfaaPAx14
import Derived.Test.YtiikmomjggcdfaaPAx15
import Derived.Test.YtiikmomjggcdfaaPAx2
import Derived.Test.YtiikmomjggcdfaaPAx4
import Derived.Test.YtiikmomjggcdfaaPAx5
import Derived.Test.YtiikmomjggcdfaaPAx6
import Derived.Laws.BitsLemmas
namespace Go.Proofs.Ytiikmomjggcdfaa.Flt
open Go.RowKit Go.Proofs.Ytiikmomjggcdfaa.PA Go.Proofs.YtiikmomjggcdfaaW.PrintWords Go.Proofs.YtiikmomjggcdfaaW.PrintLast
set_option linter.unusedVariables false
theorem wrap_u64 (n : Int) : IntKind.u64.wrap n = n % 18446744073709551616 := by simp [IntKind.wrap, IntKind.bits, IntKind.signed]
def nan (a : Nat) : Prop := 9218868437227405312 < a % 9223372036854775808
instance (a : Nat) : Decidable (nan a) := by unfold nan; exact inferInstance
def key (a : Nat) : Int := if nan a then 0 else if 9223372036854775808 ≤ a then 18442240474082181121 - (a : Int) else 9218868437227405314 + (a : Int)
def canon (a : Nat) : Nat := if nan a then 9221120237041090561 else a
theorem nan_canon : nan 9221120237041090561 := by unfold nan; omega
theorem wf64 {x : Int} (h : (Lit.int .u64 x).wf = true) : 0 ≤ x ∧ x ≤ 18446744073709551615 := by
  simpa [Lit.wf, IntKind.min, IntKind.max, IntKind.signed, IntKind.bits] using h
theorem nat64 {x : Int} (h : (Lit.int .u64 x).wf = true) : x.toNat < 18446744073709551616 ∧ (x.toNat : Int) = x := by
  have := wf64 h
  omega
/-! ### bits -/
theorem bits_xor (x y : Nat) (hx : x < 18446744073709551616) (hy : y < 18446744073709551616) : Go.bits .xor .u64 (x : Int) (y : Int) = ((x ^^^ y : Nat) : Int) := by
  have h : (x ^^^ y) < 2 ^ 64 := Nat.xor_lt_two_pow (n := 64) hx hy
  have e : Go.bits .xor .u64 (x : Int) (y : Int) = IntKind.u64.wrap ((((BitVec.ofInt 64 x) ^^^ (BitVec.ofInt 64 y)).toNat : Nat) : Int) := rfl
  rw [e, BitVec.toNat_xor, BitVec.ofInt_natCast, BitVec.ofInt_natCast, BitVec.toNat_ofNat, BitVec.toNat_ofNat, Nat.mod_eq_of_lt (show x < 2 ^ 64 from hx), Nat.mod_eq_of_lt (show y < 2 ^ 64 from hy), wrap_u64]
  omega
theorem bits_and (x y : Nat) (hx : x < 18446744073709551616) (hy : y < 18446744073709551616) : Go.bits .and .u64 (x : Int) (y : Int) = ((x &&& y : Nat) : Int) := by
  have h : (x &&& y) < 2 ^ 64 := Nat.and_lt_two_pow (n := 64) _ hy
  have e : Go.bits .and .u64 (x : Int) (y : Int) = IntKind.u64.wrap ((((BitVec.ofInt 64 x) &&& (BitVec.ofInt 64 y)).toNat : Nat) : Int) := rfl
  rw [e, BitVec.toNat_and, BitVec.ofInt_natCast, BitVec.ofInt_natCast, BitVec.toNat_ofNat, BitVec.toNat_ofNat, Nat.mod_eq_of_lt (show x < 2 ^ 64 from hx), Nat.mod_eq_of_lt (show y < 2 ^ 64 from hy), wrap_u64]
  omega
theorem or_top (r : Nat) (hr : r < 2 ^ 63) : 2 ^ 63 + r = 2 ^ 63 ||| r := by
  have := Nat.two_pow_add_eq_or_of_lt hr 1
  rwa [Nat.mul_one] at this
theorem xor_top (x : Nat) (hx : x < 18446744073709551616) : x ^^^ 9223372036854775808 = if 9223372036854775808 ≤ x then x - 9223372036854775808 else x + 9223372036854775808 := by
  have hlt : x % 9223372036854775808 < 2 ^ 63 := Nat.mod_lt _ (by decide)
  by_cases c : 9223372036854775808 ≤ x
  · rw [if_pos c]
    have e : x = 2 ^ 63 * 1 + (x - 9223372036854775808) := by omega
    have hr : x - 9223372036854775808 < 2 ^ 63 := by omega
    have e2 : x = 2 ^ 63 ||| (x - 9223372036854775808) := by
      rw [← or_top _ hr]; omega
    apply Nat.eq_of_testBit_eq
    intro i
    rw [Nat.testBit_xor]
    conv => lhs; rw [e2]
    rw [Nat.testBit_or, show (9223372036854775808 : Nat) = 2 ^ 63 from rfl, Nat.testBit_two_pow]
    by_cases ci : 63 = i
    · subst ci
      rw [Nat.testBit_lt_two_pow hr]; simp
    · simp [ci]
  · rw [if_neg c]
    have hr : x < 2 ^ 63 := by omega
    have e2 : x + 9223372036854775808 = 2 ^ 63 ||| x := by
      rw [← or_top _ hr]; omega
    rw [e2]
    apply Nat.eq_of_testBit_eq
    intro i
    rw [Nat.testBit_xor, Nat.testBit_or, show (9223372036854775808 : Nat) = 2 ^ 63 from rfl, Nat.testBit_two_pow]
    by_cases ci : 63 = i
    · subst ci
      rw [Nat.testBit_lt_two_pow hr]; simp
    · simp [ci]
theorem xor_all (x : Nat) (hx : x < 18446744073709551616) : 18446744073709551615 ^^^ x = 18446744073709551615 - x := by
  have h := BitVec.toNat_not (x := BitVec.ofNat 64 x)
  have h2 : (~~~ (BitVec.ofNat 64 x)) = BitVec.allOnes 64 ^^^ BitVec.ofNat 64 x := by rw [BitVec.allOnes_xor]
  rw [h2, BitVec.toNat_xor, BitVec.toNat_allOnes, BitVec.toNat_ofNat, Nat.mod_eq_of_lt (show x < 2 ^ 64 from hx)] at h
  exact h
theorem and_low (x : Nat) (hx : x < 2 ^ 63) : x &&& 2 ^ 63 = 0 := by
  apply Nat.eq_of_testBit_eq
  intro i
  rw [Nat.testBit_and, Nat.testBit_two_pow, Nat.zero_testBit]
  by_cases ci : 63 = i
  · subst ci
    rw [Nat.testBit_lt_two_pow hx]; simp
  · simp [ci]
theorem and_high (r : Nat) (hr : r < 2 ^ 63) : (2 ^ 63 + r) &&& 2 ^ 63 ≠ 0 := by
  intro h
  have h2 : ((2 ^ 63 + r) &&& 2 ^ 63).testBit 63 = true := by
    rw [or_top r hr, Nat.testBit_and, Nat.testBit_or, Nat.testBit_two_pow_self]; simp
  rw [h, Nat.zero_testBit] at h2
  cases h2
theorem sgn0 (a : Nat) (ha : a < 18446744073709551616) : Go.bits .and .u64 (a : Int) 9223372036854775808 = 0 ↔ a < 9223372036854775808 := by
  have := bits_and a 9223372036854775808 ha (by decide)
  rw [show ((9223372036854775808 : Nat) : Int) = 9223372036854775808 from rfl] at this
  rw [this]
  by_cases c : a < 9223372036854775808
  · have h := and_low a c
    rw [show (2 : Nat) ^ 63 = 9223372036854775808 from rfl] at h
    rw [h]; simp [c]
  · have h := and_high (a - 9223372036854775808) (by omega)
    rw [show (2 : Nat) ^ 63 = 9223372036854775808 from rfl, show 9223372036854775808 + (a - 9223372036854775808) = a by omega] at h
    simp [c, h]
theorem xtop (a : Nat) (ha : a < 18446744073709551616) : Go.bits .xor .u64 (a : Int) 9223372036854775808 = if 9223372036854775808 ≤ a then (a : Int) - 9223372036854775808 else (a : Int) + 9223372036854775808 := by
  have := bits_xor a 9223372036854775808 ha (by decide)
  rw [show ((9223372036854775808 : Nat) : Int) = 9223372036854775808 from rfl] at this
  rw [this, xor_top a ha]
  split <;> omega
theorem xall (a : Nat) (ha : a < 18446744073709551616) : Go.bits .xor .u64 18446744073709551615 (a : Int) = 18446744073709551615 - (a : Int) := by
  have := bits_xor 18446744073709551615 a (by decide) ha
  rw [show ((18446744073709551615 : Nat) : Int) = 18446744073709551615 from rfl] at this
  rw [this, xor_all a ha]
  omega
/-! ### the program's -/
theorem read_nan (a : Nat) (h : nan a) : ∃ s t, Ieee.double.read a = .nan s t := by
  have e1 : Ieee.double.signWeight = 9223372036854775808 := rfl
  have e2 : Ieee.double.infRung = 9218868437227405312 := rfl
  have e3 : Ieee.double.binade = 4503599627370496 := rfl
  unfold nan at h
  unfold Ieee.Format.read
  rw [e1, e2, e3]
  simp only
  rw [if_neg (by omega), if_neg (by omega), if_neg (by omega)]
  exact ⟨_, _, rfl⟩
theorem read_inf (a : Nat) (h : a % 9223372036854775808 = 9218868437227405312) : Ieee.double.read a = .infinity (a / 9223372036854775808 % 2 == 1) := by
  have e1 : Ieee.double.signWeight = 9223372036854775808 := rfl
  have e2 : Ieee.double.infRung = 9218868437227405312 := rfl
  have e3 : Ieee.double.binade = 4503599627370496 := rfl
  unfold Ieee.Format.read
  rw [e1, e2, e3]
  simp only
  rw [if_neg (by omega), if_neg (by omega), if_pos h]
theorem read_num (a : Nat) (h : a % 9223372036854775808 < 9218868437227405312) : ∃ m e, Ieee.double.read a = .number (a / 9223372036854775808 % 2 == 1) m e := by
  have e1 : Ieee.double.signWeight = 9223372036854775808 := rfl
  have e2 : Ieee.double.infRung = 9218868437227405312 := rfl
  have e3 : Ieee.double.binade = 4503599627370496 := rfl
  unfold Ieee.Format.read
  rw [e1, e2, e3]
  simp only
  by_cases c1 : a % 9223372036854775808 < 4503599627370496
  · rw [if_pos c1]; exact ⟨_, _, rfl⟩
  · rw [if_neg c1, if_pos h]; exact ⟨_, _, rfl⟩
theorem order_self (a : Nat) : FloatKind.f64.format.order a a = if nan a then none else some .eq := by
  show (Ieee.double.read a).order (Ieee.double.read a) = _
  by_cases c : nan a
  · rw [if_pos c]
    obtain ⟨s, t, h⟩ := read_nan a c
    rw [h]; rfl
  · rw [if_neg c]
    unfold nan at c
    by_cases c2 : a % 9223372036854775808 = 9218868437227405312
    · rw [read_inf a c2]; simp [Ieee.Datum.order]
    · obtain ⟨m, e, h⟩ := read_num a (by omega)
      rw [h]; simp [Ieee.Datum.order]
theorem isNaN_f (a : Nat) : math_IsNaN.f a = some (decide (nan a)) := by
  unfold math_IsNaN.f
  rw [order_self a]
  by_cases c : nan a
  · rw [if_pos c]; simp [c]
  · rw [if_neg c]; simp [c]
theorem key_f (a : Nat) (ha : a < 18446744073709551616) : heat_Key.f a = some (key a) := by
  unfold heat_Key.f key
  rw [isNaN_f a, Option.bind_some]
  by_cases c : nan a
  · simp [c]
  · rw [if_neg (by simp [c]), if_neg c]
    have c' : a % 9223372036854775808 ≤ 9218868437227405312 := by unfold nan at c; omega
    by_cases s : 9223372036854775808 ≤ a
    · rw [if_neg (by rw [sgn0 a ha]; omega), if_pos s, xall a ha, wrap_u64]
      exact congrArg some (by omega)
    · rw [if_pos (by rw [sgn0 a ha]; omega), if_neg s, xtop a ha, if_neg s, wrap_u64]
      exact congrArg some (by omega)
theorem canon_f (a : Nat) : heat_Canon.f a = some (canon a) := by
  unfold heat_Canon.f canon
  rw [isNaN_f a, Option.bind_some]
  by_cases c : nan a
  · have h1 : decide (nan a) = true := decide_eq_true c
    rw [h1]
    rw [if_pos c, if_pos rfl]
    exact congrArg some (show (9221120237041090561 : Int).toNat = 9221120237041090561 by omega)
  · rw [if_neg (by simp [c]), if_neg c]
theorem canon_lt (a : Nat) (ha : a < 18446744073709551616) : canon a < 18446744073709551616 := by unfold canon; split <;> omega
theorem bits_f (a : Nat) : heat_Bits.f a = some (canon a : Int) := by
  unfold heat_Bits.f; rw [canon_f a]; rfl
theorem of_f (a : Int) : heat_Of.f a = some (canon a.toNat) := by
  unfold heat_Of.f; rw [canon_f _]; rfl
theorem cmp_f (x y : Int) : cmp_Compare_uint64.f x y = some (if x < y then -1 else if x > y then 1 else 0) := by
  unfold cmp_Compare_uint64.f cmp_isNaN_uint64.f
  simp only [Option.bind_some, bne_self_eq_false, Bool.false_eq_true, if_false]
  split
  · rfl
  · split <;> rfl
def cmp (a b : Nat) : Int := if key a < key b then -1 else if key a > key b then 1 else 0
theorem compare_f (a b : Nat) (ha : a < 18446744073709551616) (hb : b < 18446744073709551616) : heat_Compare.f a b = some (cmp a b) := by
  unfold heat_Compare.f
  rw [key_f a ha, Option.bind_some, key_f b hb, Option.bind_some, cmp_f, Option.bind_some]
  rfl
theorem key_nan {a : Nat} (h : nan a) : key a = 0 := by unfold key; rw [if_pos h]
theorem key_pos {a : Nat} (ha : a < 18446744073709551616) (h : ¬ nan a) : 1 ≤ key a ∧ key a ≤ 18437736874454810626 := by
  unfold key; rw [if_neg h]; unfold nan at h
  split <;> omega
theorem key_range (a : Nat) (ha : a < 18446744073709551616) : 0 ≤ key a ∧ key a ≤ 18437736874454810626 := by
  by_cases h : nan a
  · rw [key_nan h]; omega
  · have := key_pos ha h; omega
theorem key_canon (a : Nat) : key (canon a) = key a := by
  unfold canon
  by_cases h : nan a
  · rw [if_pos h, key_nan nan_canon, key_nan h]
  · rw [if_neg h]
theorem key_inj {a b : Nat} (ha : a < 18446744073709551616) (hb : b < 18446744073709551616) : key a = key b ↔ canon a = canon b := by
  constructor
  · intro h
    by_cases na : nan a
    · by_cases nb : nan b
      · unfold canon; rw [if_pos na, if_pos nb]
      · have := key_pos hb nb; rw [key_nan na] at h; omega
    · by_cases nb : nan b
      · have := key_pos ha na; rw [key_nan nb] at h; omega
      · unfold canon; rw [if_neg na, if_neg nb]
        unfold key at h; rw [if_neg na, if_neg nb] at h
        unfold nan at na nb
        split at h <;> split at h <;> omega
  · intro h; rw [← key_canon a, ← key_canon b, h]
/-! ### From -/
theorem not_nan_of {a : Nat} (h : a % 9223372036854775808 ≤ 9218868437227405312) : ¬ nan a := by unfold nan; omega
theorem from_j (k : Nat) (K : Int) (b : Nat) (hb : b < 18446744073709551616) (hkey : ¬ nan b → key b = K) (hK : nan b → K = 0 ∨ 18437736874454810626 < K) : heat_From.j0 (k + 1) K (b : Int) = some (if nan b then 9221120237041090561 else b) := by
  simp only [heat_From.j0]
  have e1 : heat_Of.f (b : Int) = some (canon b) := by rw [of_f, Int.toNat_natCast]
  have e2 : heat_Of.f 9221120237041090561 = some 9221120237041090561 := by
    rw [of_f]
    have : (9221120237041090561 : Int).toNat = 9221120237041090561 := by omega
    rw [this]; unfold canon; rw [if_pos nan_canon]
  rw [e1, Option.bind_some, e2, Option.bind_some]
  by_cases c : nan b
  · rw [if_pos c]
    split
    · rfl
    · rename_i h0
      have ec : canon b = 9221120237041090561 := by unfold canon; rw [if_pos c]
      rw [ec, key_f _ (by omega), Option.bind_some, key_nan nan_canon, if_neg (fun h => h0 h.symm)]
  · rw [if_neg c]
    have ec : canon b = b := by unfold canon; rw [if_neg c]
    have hk := hkey c
    have hp := key_pos hb c
    rw [if_neg (by omega), ec, key_f b hb, Option.bind_some, if_pos hk]
/-- the heat whose key it is -/
def unkey (K : Int) : Nat := if 1 ≤ K ∧ K ≤ 9218868437227405313 then (18442240474082181121 - K).toNat else if 9218868437227405313 < K ∧ K ≤ 18437736874454810626 then (K - 9218868437227405314).toNat else 9221120237041090561
theorem from_f (k : Nat) (K : Int) (h0 : 0 ≤ K) (h1 : K ≤ 18446744073709551615) : heat_From.f (k + 1) K = some (unkey K) := by
  unfold heat_From.f
  obtain ⟨B, hB⟩ : ∃ B : Nat, (B : Int) = IntKind.u64.wrap (K + 4503599627370494) := ⟨(IntKind.u64.wrap (K + 4503599627370494)).toNat, by rw [wrap_u64]; omega⟩
  rw [← hB]
  rw [wrap_u64] at hB
  have hB2 : B < 18446744073709551616 := by omega
  have fin : ∀ b : Nat, b < 18446744073709551616 → (¬ nan b → key b = K) → (nan b → K = 0 ∨ 18437736874454810626 < K) → heat_From.j0 (k + 1) K (b : Int) = some (unkey K) := by
    intro b hb g1 g2
    rw [from_j k K b hb g1 g2]
    congr 1
    unfold unkey
    by_cases c : nan b
    · rw [if_pos c]
      have := g2 c
      rw [if_neg (by omega), if_neg (by omega)]
    · rw [if_neg c]
      have hk := g1 c
      have hp := key_pos hb c
      unfold key at hk
      rw [if_neg c] at hk
      have c' : b % 9223372036854775808 ≤ 9218868437227405312 := by unfold nan at c; omega
      split at hk
      · rw [if_pos (by omega)]; omega
      · rw [if_neg (by omega), if_pos (by omega)]; omega
  by_cases s : B < 9223372036854775808
  · rw [if_pos ((sgn0 B hB2).mpr s), xall B hB2]
    obtain ⟨b, hb⟩ : ∃ b : Nat, (b : Int) = 18446744073709551615 - (B : Int) := ⟨(18446744073709551615 - (B : Int)).toNat, by omega⟩
    rw [← hb]
    refine fin b (by omega) (fun c => ?_) (fun c => ?_)
    · unfold key; rw [if_neg c, if_pos (by omega)]; unfold nan at c; omega
    · unfold nan at c; omega
  · rw [if_neg (fun h => s ((sgn0 B hB2).mp h)), xtop B hB2, if_pos (by omega)]
    obtain ⟨b, hb⟩ : ∃ b : Nat, (b : Int) = (B : Int) - 9223372036854775808 := ⟨((B : Int) - 9223372036854775808).toNat, by omega⟩
    rw [← hb]
    refine fin b (by omega) (fun c => ?_) (fun c => ?_)
    · unfold key; rw [if_neg c, if_neg (by omega)]; unfold nan at c; omega
    · unfold nan at c; omega
theorem unkey_key (a : Nat) (ha : a < 18446744073709551616) : unkey (key a) = canon a := by
  unfold unkey canon
  by_cases c : nan a
  · rw [key_nan c, if_pos c, if_neg (by omega), if_neg (by omega)]
  · have hp := key_pos ha c
    unfold key at hp ⊢
    rw [if_neg c] at hp ⊢
    rw [if_neg c]
    unfold nan at c
    by_cases s : 9223372036854775808 ≤ a
    · rw [if_pos s] at hp ⊢
      rw [if_pos (by omega)]; omega
    · rw [if_neg s] at hp ⊢
      rw [if_neg (by omega), if_pos (by omega)]; omega
theorem unkey_lt (K : Int) : unkey K < 18446744073709551616 := by unfold unkey; split <;> (try split) <;> omega
theorem key_unkey (K : Int) (h0 : 0 ≤ K) (h1 : K ≤ 18437736874454810626) : key (unkey K) = K := by
  unfold unkey
  by_cases c1 : 1 ≤ K ∧ K ≤ 9218868437227405313
  · rw [if_pos c1]
    unfold key
    rw [if_neg (by unfold nan; omega), if_pos (by omega)]; omega
  · rw [if_neg c1]
    by_cases c2 : 9218868437227405313 < K ∧ K ≤ 18437736874454810626
    · rw [if_pos c2]
      unfold key
      rw [if_neg (by unfold nan; omega), if_neg (by omega)]; omega
    · rw [if_neg c2, key_nan nan_canon]; omega
/-! ### the document's -/
theorem not_f (a : Nat) (ha : a < 18446744073709551616) : dowserref03_Not.f a = some (decide (nan a)) := by
  unfold dowserref03_Not.f
  have e : IntKind.u64.wrap ((a : Int) / 4503599627370496) = ((a / 4503599627370496 : Nat) : Int) := by rw [wrap_u64]; omega
  have e2 : Int.tmod ((a / 4503599627370496 : Nat) : Int) 2048 = ((a / 4503599627370496 % 2048 : Nat) : Int) := rfl
  rw [e, e2]
  by_cases c : a / 4503599627370496 % 2048 = 2047
  · rw [if_pos (by omega)]
    congr 1
    rw [decide_eq_decide]
    unfold nan
    omega
  · rw [if_neg (by omega)]
    congr 1
    symm
    rw [decide_eq_false_iff_not]
    unfold nan
    omega
theorem rbits_f (a : Nat) (ha : a < 18446744073709551616) : dowserref03_Bits.f a = some (canon a : Int) := by
  unfold dowserref03_Bits.f canon
  rw [not_f a ha, Option.bind_some]
  by_cases c : nan a
  · simp [c]
  · simp [c]
theorem rminus_f (a : Nat) : dowserref03_minus.f a = some (decide (9223372036854775808 ≤ a)) := by
  unfold dowserref03_minus.f
  congr 1
  rw [decide_eq_decide]; omega
theorem rkey_f (a : Nat) (ha : a < 18446744073709551616) : dowserref03_Key.f a = some (key a) := by
  unfold dowserref03_Key.f key
  rw [not_f a ha, Option.bind_some]
  by_cases c : nan a
  · simp [c]
  · rw [if_neg (by simp [c]), if_neg c, rminus_f, Option.bind_some]
    unfold nan at c
    by_cases s : 9223372036854775808 ≤ a
    · rw [if_pos (by simp [s]), if_pos s, wrap_u64, wrap_u64]; exact congrArg some (by omega)
    · rw [if_neg (by simp [s]), if_neg s, wrap_u64, wrap_u64]; exact congrArg some (by omega)
theorem less_f (k a b : Nat) (ha : a < 18446744073709551616) (hb : b < 18446744073709551616) : dowserref03_Less.f (k + 1) a b = some (decide (key a < key b)) := by
  have ja : ∀ x, (x = true ↔ (nan a ∨ nan b)) → dowserref03_Less.j0 (k + 1) a b x = some (decide (key a < key b)) := by
    intro x hx
    simp only [dowserref03_Less.j0]
    rw [not_f a ha, not_f b hb, rminus_f, rminus_f]
    simp only [Option.bind_some]
    by_cases c : x = true
    · rw [if_pos c]
      have hn := hx.mp c
      by_cases na : nan a
      · rw [if_pos (decide_eq_true na)]
        congr 1
        rw [key_nan na]
        by_cases nb : nan b
        · rw [key_nan nb]; simp [nb]
        · have := key_pos hb nb
          simp [nb]; omega
      · rw [if_neg (by simp [na])]
        have nb : nan b := hn.resolve_left na
        have := key_pos ha na
        rw [key_nan nb]
        congr 1; symm; rw [decide_eq_false_iff_not]; omega
    · rw [if_neg c]
      have na : ¬ nan a := fun h => c (hx.mpr (.inl h))
      have nb : ¬ nan b := fun h => c (hx.mpr (.inr h))
      unfold key
      rw [if_neg na, if_neg nb]
      unfold nan at na nb
      by_cases sa : 9223372036854775808 ≤ a <;> by_cases sb : 9223372036854775808 ≤ b
      · simp only [sa, sb, decide_true, bne_self_eq_false, Bool.false_eq_true, if_false, if_true]
        congr 1; rw [decide_eq_decide]; omega
      · simp only [sa, sb, decide_true, decide_false, if_true, if_false]
        rw [if_pos (by decide)]
        congr 1; symm; rw [decide_eq_true_iff]; omega
      · simp only [sa, sb, decide_true, decide_false, if_true, if_false]
        rw [if_pos (by decide)]
        congr 1; symm; rw [decide_eq_false_iff_not]; omega
      · simp only [sa, sb, decide_false, bne_self_eq_false, Bool.false_eq_true, if_false]
        congr 1; rw [decide_eq_decide]; omega
  unfold dowserref03_Less.f
  rw [not_f a ha, not_f b hb]
  simp only [Option.bind_some]
  by_cases na : nan a
  · rw [if_pos (decide_eq_true na)]; exact ja true (by simp [na])
  · rw [if_neg (by simp [na])]; exact ja _ (by simp [na])
theorem rcompare_f (k a b : Nat) (ha : a < 18446744073709551616) (hb : b < 18446744073709551616) : dowserref03_Compare.f (k + 1) a b = some (cmp a b) := by
  unfold dowserref03_Compare.f cmp
  rw [less_f k a b ha hb, less_f k b a hb ha]
  simp only [Option.bind_some]
  by_cases c : key a < key b
  · rw [if_pos (decide_eq_true c), if_pos c]
  · rw [if_neg (by simp only [decide_eq_true_iff]; exact c), if_neg c]
    by_cases d : key b < key a
    · rw [if_pos (decide_eq_true d), if_pos d]
    · rw [if_neg (by simp only [decide_eq_true_iff]; exact d), if_neg d]
end Go.Proofs.Ytiikmomjggcdfaa.Flt
