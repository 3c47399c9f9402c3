/- Plain facts about the checksum: bits, linearity, and that the cstep loses nothing. -/
import Derived.Laws.BitsLemmas
namespace Go.Proofs.Ytfkgidiedpkbdaa.CrcPlain
open Go

def cpoly : BitVec 32 := 79764919#32
def cstep (x : BitVec 32) : BitVec 32 := (x <<< 1) ^^^ (if x.msb then cpoly else 0#32)
def cones (x : BitVec 32) : BitVec 32 := cstep (cstep (cstep (cstep (cstep (cstep (cstep (cstep x)))))))
def chi (b : UInt8) : BitVec 32 := BitVec.ofNat 32 (b.toNat * 16777216)
def con (s : BitVec 32) (l : List UInt8) : BitVec 32 := l.foldl (fun s b => cones (s ^^^ chi b)) s

theorem step_xor (x y : BitVec 32) : cstep (x ^^^ y) = cstep x ^^^ cstep y := by
  unfold cstep
  rw [BitVec.msb_xor, BitVec.shiftLeft_xor_distrib]
  have hp : cpoly ^^^ cpoly = 0#32 := by decide
  cases x.msb <;> cases y.msb <;> simp only [Bool.xor_false, Bool.xor_true, Bool.not_false, Bool.not_true, if_true, if_false, Bool.false_eq_true, BitVec.xor_zero]
  · rw [BitVec.xor_assoc]
  · rw [BitVec.xor_assoc, BitVec.xor_assoc, BitVec.xor_comm cpoly]
  · rw [BitVec.xor_assoc, BitVec.xor_comm cpoly, BitVec.xor_assoc, hp, BitVec.xor_zero]

theorem step_zero : cstep 0#32 = 0#32 := by decide
theorem step_none (x : BitVec 32) (h : cstep x = 0#32) : x = 0#32 := by
  unfold cstep at h
  cases hm : x.msb with
  | true =>
    rw [hm] at h
    have h0 := congrArg (fun v => v.getLsbD 0) h
    have hp : cpoly[0] = true := by decide
    simp [hp] at h0
  | false =>
    rw [hm] at h
    simp only [Bool.false_eq_true, if_false, BitVec.xor_zero] at h
    apply BitVec.eq_of_getLsbD_eq
    intro i hi_
    rw [BitVec.getLsbD_zero]
    by_cases e : i = 31
    · subst e
      have := BitVec.msb_eq_getLsbD_last x
      rw [hm] at this
      exact this.symm
    · have h1 := congrArg (fun v => v.getLsbD (i + 1)) h
      simp only [BitVec.getLsbD_shiftLeft, BitVec.getLsbD_zero] at h1
      have h2 : i + 1 < 32 := by omega
      simpa [h2] using h1

theorem ones_xor (x y : BitVec 32) : cones (x ^^^ y) = cones x ^^^ cones y := by unfold cones; simp only [step_xor]
theorem ones_none (x : BitVec 32) (h : cones x = 0#32) : x = 0#32 := by
  unfold cones at h
  exact step_none _ (step_none _ (step_none _ (step_none _ (step_none _ (step_none _ (step_none _ (step_none _ h)))))))
theorem xor_none {x y : BitVec 32} : x ^^^ y = 0#32 ↔ x = y := by
  constructor
  · intro h
    have : x ^^^ y ^^^ y = 0#32 ^^^ y := by rw [h]
    simpa [BitVec.xor_assoc] using this
  · rintro rfl; exact BitVec.xor_self

theorem on_nil (s : BitVec 32) : con s [] = s := rfl
theorem on_cons (s : BitVec 32) (b : UInt8) (l : List UInt8) : con s (b :: l) = con (cones (s ^^^ chi b)) l := rfl
theorem on_append (s : BitVec 32) (l m : List UInt8) : con s (l ++ m) = con (con s l) m := List.foldl_append
/-- Unlike sums stay unlike over the same bytes. -/
theorem on_inj (l : List UInt8) : ∀ (s t : BitVec 32), con s l = con t l → s = t := by
  induction l with
  | nil => intro s t h; exact h
  | cons b l ih =>
    intro s t h
    rw [on_cons, on_cons] at h
    have h1 := ih _ _ h
    have h2 : cones ((s ^^^ chi b) ^^^ (t ^^^ chi b)) = 0#32 := by rw [ones_xor, h1, BitVec.xor_self]
    have h3 := ones_none _ h2
    have h4 := xor_none.1 h3
    have h5 : s ^^^ chi b ^^^ chi b = t ^^^ chi b ^^^ chi b := by rw [h4]
    simpa [BitVec.xor_assoc] using h5

/-- Two runs at once: what they differ by runs con by itself. -/
theorem on_xor (l m : List UInt8) (h : l.length = m.length) : ∀ (s t : BitVec 32), con s l ^^^ con t m = con (s ^^^ t) (List.zipWith (· ^^^ ·) l m) := by
  induction l generalizing m with
  | nil => intro s t; cases m with
    | nil => rfl
    | cons _ _ => simp at h
  | cons a l ih => intro s t; cases m with
    | nil => simp at h
    | cons b m =>
      rw [List.zipWith_cons_cons, on_cons, on_cons, on_cons, ih m (by simpa using h), ← ones_xor]
      congr 2
      have : chi (a ^^^ b) = chi a ^^^ chi b := by
        have hh : ∀ c : UInt8, chi c = (BitVec.ofNat 32 c.toNat) <<< 24 := by
          intro c; unfold chi; apply BitVec.eq_of_toNat_eq; simp [BitVec.toNat_shiftLeft, Nat.shiftLeft_eq]
        rw [hh, hh, hh, ← BitVec.shiftLeft_xor_distrib]
        congr 1
        rw [UInt8.toNat_xor]
        apply BitVec.eq_of_toNat_eq
        have ha := a.toNat_lt
        have hb := b.toNat_lt
        simp only [BitVec.toNat_ofNat, BitVec.toNat_xor]
        rw [Nat.mod_eq_of_lt (show a.toNat < 2 ^ 32 by omega), Nat.mod_eq_of_lt (show b.toNat < 2 ^ 32 by omega)]
        exact Nat.mod_eq_of_lt (Nat.xor_lt_two_pow (by omega) (by omega))
      rw [this]
      simp only [BitVec.xor_assoc]
      congr 1
      rw [← BitVec.xor_assoc, BitVec.xor_comm (chi a) t, BitVec.xor_assoc]

/-! A number's own cfour bytes. -/
def cfour (x : BitVec 32) : List UInt8 := [UInt8.ofNat (x.toNat / 16777216), UInt8.ofNat (x.toNat / 65536), UInt8.ofNat (x.toNat / 256), UInt8.ofNat x.toNat]
theorem step_small (x : BitVec 32) (h : x.toNat < 2147483648) : (cstep x).toNat = x.toNat * 2 := by
  unfold cstep
  have hm : x.msb = false := by
    rw [BitVec.msb_eq_decide]; simp; omega
  rw [hm]
  simp [BitVec.toNat_shiftLeft, Nat.shiftLeft_eq]
  omega
theorem ones_small (x : BitVec 32) (h : x.toNat < 16777216) : (cones x).toNat = x.toNat * 256 := by
  unfold cones
  have h1 := step_small x (by omega)
  have h2 := step_small (cstep x) (by omega)
  have h3 := step_small (cstep (cstep x)) (by omega)
  have h4 := step_small (cstep (cstep (cstep x))) (by omega)
  have h5 := step_small (cstep (cstep (cstep (cstep x)))) (by omega)
  have h6 := step_small (cstep (cstep (cstep (cstep (cstep x))))) (by omega)
  have h7 := step_small (cstep (cstep (cstep (cstep (cstep (cstep x)))))) (by omega)
  have h8 := step_small (cstep (cstep (cstep (cstep (cstep (cstep (cstep x))))))) (by omega)
  omega
theorem xor_top (x : BitVec 32) : (x ^^^ chi (UInt8.ofNat (x.toNat / 16777216))).toNat = x.toNat % 16777216 := by
  have hlt := x.isLt
  have e : (chi (UInt8.ofNat (x.toNat / 16777216))).toNat = x.toNat / 16777216 * 16777216 := by
    unfold chi
    simp only [BitVec.toNat_ofNat, UInt8.toNat_ofNat']
    omega
  rw [BitVec.toNat_xor, e]
  have h2 : x.toNat = 2 ^ 24 * (x.toNat / 16777216) + x.toNat % 16777216 := by omega
  have h3 : x.toNat / 16777216 * 16777216 = 2 ^ 24 * (x.toNat / 16777216) + 0 := by omega
  have hr : x.toNat % 16777216 < 2 ^ 24 := by omega
  apply Nat.eq_of_testBit_eq
  intro i
  rw [Nat.testBit_xor, h3]
  conv => lhs; lhs; rw [h2]
  rw [Nat.testBit_two_pow_mul_add _ hr, Nat.testBit_two_pow_mul_add _ (by omega : 0 < 2 ^ 24)]
  split
  · simp
  · rename_i h
    rw [Bool.xor_self]
    symm
    apply Nat.testBit_lt_two_pow
    exact Nat.lt_of_lt_of_le hr (Nat.pow_le_pow_right (by omega) (by omega))
theorem on_own (x : BitVec 32) : con x (cfour x) = 0#32 := by
  have hlt := x.isLt
  have h1 := xor_top x
  have g1 := ones_small _ (by rw [h1]; omega : (x ^^^ chi (UInt8.ofNat (x.toNat / 16777216))).toNat < 16777216)
  generalize e1 : cones (x ^^^ chi (UInt8.ofNat (x.toNat / 16777216))) = y1 at g1
  have c2 : UInt8.ofNat (x.toNat / 65536) = UInt8.ofNat (y1.toNat / 16777216) := by
    apply UInt8.toNat_inj.1; simp only [UInt8.toNat_ofNat']; omega
  have h2 := xor_top y1
  have g2 := ones_small _ (by rw [h2]; omega : (y1 ^^^ chi (UInt8.ofNat (y1.toNat / 16777216))).toNat < 16777216)
  generalize e2 : cones (y1 ^^^ chi (UInt8.ofNat (y1.toNat / 16777216))) = y2 at g2
  have c3 : UInt8.ofNat (x.toNat / 256) = UInt8.ofNat (y2.toNat / 16777216) := by
    apply UInt8.toNat_inj.1; simp only [UInt8.toNat_ofNat']; omega
  have h3 := xor_top y2
  have g3 := ones_small _ (by rw [h3]; omega : (y2 ^^^ chi (UInt8.ofNat (y2.toNat / 16777216))).toNat < 16777216)
  generalize e3 : cones (y2 ^^^ chi (UInt8.ofNat (y2.toNat / 16777216))) = y3 at g3
  have c4 : UInt8.ofNat (x.toNat) = UInt8.ofNat (y3.toNat / 16777216) := by
    apply UInt8.toNat_inj.1; simp only [UInt8.toNat_ofNat']; omega
  have h4 := xor_top y3
  have g4 := ones_small _ (by rw [h4]; omega : (y3 ^^^ chi (UInt8.ofNat (y3.toNat / 16777216))).toNat < 16777216)
  unfold cfour
  rw [on_cons, on_cons, on_cons, on_cons, on_nil, e1, c2, e2, c3, e3, c4]
  apply BitVec.eq_of_toNat_eq
  rw [g4, h4]
  simp
  omega

/-! Bit by bit, as the document tells it. -/
def crstep (v : BitVec 32) (bit : Bool) : BitVec 32 := (v <<< 1) ^^^ (if bit != v.msb then cpoly else 0#32)
theorem rstep_eq (v : BitVec 32) (bit : Bool) : crstep v bit = cstep v ^^^ (if bit then cpoly else 0#32) := by
  unfold crstep cstep
  have hp : cpoly ^^^ cpoly = 0#32 := by decide
  cases bit <;> cases v.msb <;> simp [BitVec.xor_assoc, hp]
def crsteps (v : BitVec 32) (b : Nat) : BitVec 32 :=
  crstep (crstep (crstep (crstep (crstep (crstep (crstep (crstep v (b / 128 % 2 == 1)) (b / 64 % 2 == 1)) (b / 32 % 2 == 1)) (b / 16 % 2 == 1)) (b / 8 % 2 == 1)) (b / 4 % 2 == 1)) (b / 2 % 2 == 1)) (b / 1 % 2 == 1)
theorem rsteps_split (v : BitVec 32) (b : Nat) : crsteps v b = cones v ^^^ crsteps 0#32 b := by
  unfold crsteps cones
  simp only [rstep_eq, step_xor, step_zero, BitVec.zero_xor, BitVec.xor_assoc]
theorem rsteps_hi : ∀ b, b < 256 → crsteps 0#32 b = cones (BitVec.ofNat 32 (b * 16777216)) := by decide +kernel
theorem rsteps_eq (v : BitVec 32) (b : UInt8) : crsteps v b.toNat = cones (v ^^^ chi b) := by
  rw [rsteps_split, rsteps_hi _ b.toNat_lt, ones_xor]; rfl

/-! As whole numbers. -/
theorem bits_xor (a b : BitVec 32) : Go.bits .xor .u32 (a.toNat : Int) (b.toNat : Int) = ((a ^^^ b).toNat : Int) := by
  have h : ∀ c : BitVec 32, BitVec.ofInt 32 ((c.toNat : Nat) : Int) = c := fun c => by rw [BitVec.ofInt_natCast, BitVec.ofNat_toNat, BitVec.setWidth_eq]
  show IntKind.u32.wrap (((BitVec.ofInt 32 (a.toNat : Int)) ^^^ (BitVec.ofInt 32 (b.toNat : Int))).toNat : Int) = _
  rw [h, h, IntKind.wrap_u32]
  have := (a ^^^ b).isLt
  omega
theorem bits_top (a : BitVec 32) : Go.bits .and .u32 (a.toNat : Int) 2147483648 = 0 ↔ a.msb = false := by
  have h : ∀ c : BitVec 32, BitVec.ofInt 32 ((c.toNat : Nat) : Int) = c := fun c => by rw [BitVec.ofInt_natCast, BitVec.ofNat_toNat, BitVec.setWidth_eq]
  show IntKind.u32.wrap (((BitVec.ofInt 32 (a.toNat : Int)) &&& (BitVec.ofInt 32 2147483648)).toNat : Int) = 0 ↔ _
  rw [h, IntKind.wrap_u32]
  have e : BitVec.ofInt 32 2147483648 = BitVec.twoPow 32 31 := by decide
  rw [e, BitVec.and_twoPow, BitVec.msb_eq_getLsbD_last]
  cases a.getLsbD 31 <;> simp <;> decide
theorem shl_one (a : BitVec 32) : ((a.toNat : Int) * (2 : Int)) % (4294967296 : Int) = ((a <<< 1).toNat : Int) := by
  rw [BitVec.toNat_shiftLeft, Nat.shiftLeft_eq]; omega
theorem add_self (a : BitVec 32) : ((a.toNat : Int) + (a.toNat : Int)) % (4294967296 : Int) = ((a <<< 1).toNat : Int) := by
  rw [← shl_one]; omega
theorem msb_ge (a : BitVec 32) : decide ((a.toNat : Int) ≥ 2147483648) = a.msb := by
  rw [BitVec.msb_eq_decide]; simp
  constructor <;> intro h <;> omega
end Go.Proofs.Ytfkgidiedpkbdaa.CrcPlain
