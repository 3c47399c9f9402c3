-- Written by this session's own program wip/bin/dprint.py, over the kit's print.py, with own texts for some functions: no print of print.sh's
import Derived.Test.YtiikmomjggcdfaaPAx0
import Derived.Test.YtiikmomjggcdfaaPAx1
namespace Go.Proofs.Ytiikmomjggcdfaa.PA
open Go.RowKit Go.Proofs.YtiikmomjggcdfaaW.PrintWords Go.Proofs.YtiikmomjggcdfaaW.PrintLast Go.Proofs.YtiikmomjggcdfaaW.PrintMore
attribute [local go_sem] max2_int min2_int max_two min_two max_three min_three max_four min_four   -- for this text's walks alone
set_option linter.unusedVariables false
set_option linter.unusedSimpArgs false

attribute [local go_sem] unary_negf
/-! ### heat_Canon: function 23 -/
def heat_Canon.f (a0 : Nat) : Option (Nat) := (math_IsNaN.f a0).bind fun t170 => (if t170 = true then (some ((9221120237041090561 : Int).toNat)) else (some a0))
set_option maxHeartbeats 40000000 in
set_option maxRecDepth 100000 in
theorem heat_Canon.calls (a0 : Nat) (r : Nat) (w : World) (h : heat_Canon.f a0 = some r) :
    Calls Try.prog 23 #[.float .f64 a0] w fun e w' => e = .returned (.float .f64 r) ∧ Drawn0 w w' := by
  have H : ((math_IsNaN.f a0).bind fun t170 => (if t170 = true then (some ((9221120237041090561 : Int).toNat)) else (some a0))) = some r := h
  clear h
  replace H := Option.bind_eq_some_iff.mp H
  obtain ⟨t170, A20, H⟩ := H
  replace H : (if t170 = true then (some ((9221120237041090561 : Int).toNat)) else (some a0)) = some r := H
  have A2 := Aside0.mk A20
  clear A20
  by_cases c3 : t170 = true
  · subst c3
    have H1 : (some ((9221120237041090561 : Int).toNat)) = some r := by rw [if_pos rfl] at H; exact H
    clear H
    have H := H1
    clear H1
    obtain rfl := Option.some.inj H
    have hxt10 : ∀ (b_ : Int) (w_ : World), (callFunc 10 #[.int .u64 b_]).run Try.prog w_ = .ok (.value (.float .f64 b_.toNat)) w_ := fun b_ w_ => by rw [run_callFunc_extern (fn := Try.f10) (e := Extern.MathFloatBits.float64frombits) (by kernel_rfl) (by rfl) (by rfl) (by kernel_rfl) (by kernel_rfl)]; rfl
    go_enter Try.func23, Try.ntmps23
    go_wp2_with (first | ((with_reducible refine gate_callee (f := 36) rfl ?_); refine goesL_ (some 4) rfl rfl Try.func36 (by kernel_rfl) rfl #[.float .f64 a0] rfl (by (try simp only [List.map_toArray, List.map_cons, List.map_nil]); first | done | rfl | (simp only [List.length_drop, List.length_take]; rfl)) ?_; (with_reducible refine (math_IsNaN.calls a0 true _ A2.out).mono ?_); rintro e w' ⟨rfl, ⟨nd, rfl⟩⟩; refine ⟨_, rfl, ?_⟩))
    go_ret
    exact ⟨by first | rfl | (simp; done) | (simp [*]; done) | (simp; rw [Bool.eq_iff_iff]; simp; done), by repeat (first | exact Drawn0.refl _ | apply Drawn0.step)⟩
  · replace c3 := Bool.eq_false_iff.mpr c3
    subst c3
    have H1 : (some a0) = some r := by rw [if_neg (show ¬ (false = true) by decide)] at H; exact H
    clear H
    have H := H1
    clear H1
    obtain rfl := Option.some.inj H
    have hxt10 : ∀ (b_ : Int) (w_ : World), (callFunc 10 #[.int .u64 b_]).run Try.prog w_ = .ok (.value (.float .f64 b_.toNat)) w_ := fun b_ w_ => by rw [run_callFunc_extern (fn := Try.f10) (e := Extern.MathFloatBits.float64frombits) (by kernel_rfl) (by rfl) (by rfl) (by kernel_rfl) (by kernel_rfl)]; rfl
    go_enter Try.func23, Try.ntmps23
    go_wp2_with (first | ((with_reducible refine gate_callee (f := 36) rfl ?_); refine goesL_ (some 4) rfl rfl Try.func36 (by kernel_rfl) rfl #[.float .f64 a0] rfl (by (try simp only [List.map_toArray, List.map_cons, List.map_nil]); first | done | rfl | (simp only [List.length_drop, List.length_take]; rfl)) ?_; (with_reducible refine (math_IsNaN.calls a0 false _ A2.out).mono ?_); rintro e w' ⟨rfl, ⟨nd, rfl⟩⟩; refine ⟨_, rfl, ?_⟩))
    go_ret
    exact ⟨by first | rfl | (simp; done) | (simp [*]; done) | (simp; rw [Bool.eq_iff_iff]; simp; done), by repeat (first | exact Drawn0.refl _ | apply Drawn0.step)⟩

/-! ### heat_Bits: function 22 -/
def heat_Bits.f (a0 : Nat) : Option (Int) := (heat_Canon.f a0).bind fun t171 => (some (t171 : Int))
set_option maxHeartbeats 40000000 in
set_option maxRecDepth 100000 in
theorem heat_Bits.calls (a0 : Nat) (r : Int) (w : World) (h : heat_Bits.f a0 = some r) :
    Calls Try.prog 22 #[.float .f64 a0] w fun e w' => e = .returned (.int .u64 r) ∧ Drawn0 w w' := by
  have H : ((heat_Canon.f a0).bind fun t171 => (some (t171 : Int))) = some r := h
  clear h
  replace H := Option.bind_eq_some_iff.mp H
  obtain ⟨t171, A20, H⟩ := H
  replace H : (some (t171 : Int)) = some r := H
  have A2 := Aside0.mk A20
  clear A20
  obtain rfl := Option.some.inj H
  have hxt20 : ∀ (b_ : Nat) (w_ : World), (callFunc 20 #[.float .f64 b_]).run Try.prog w_ = .ok (.value (.int .u64 (b_ : Int))) w_ := fun b_ w_ => by rw [run_callFunc_extern (fn := Try.f20) (e := Extern.MathFloatBits.float64bits) (by kernel_rfl) (by rfl) (by rfl) (by kernel_rfl) (by kernel_rfl)]; rfl
  go_enter Try.func22, Try.ntmps22
  go_wp2_with (first | ((with_reducible refine gate_callee (f := 23) rfl ?_); refine goesL_ (some 4) rfl rfl Try.func23 (by kernel_rfl) rfl #[.float .f64 a0] rfl (by (try simp only [List.map_toArray, List.map_cons, List.map_nil]); first | done | rfl | (simp only [List.length_drop, List.length_take]; rfl)) ?_; (with_reducible refine (heat_Canon.calls a0 t171 _ A2.out).mono ?_); rintro e w' ⟨rfl, ⟨nd, rfl⟩⟩; refine ⟨_, rfl, ?_⟩))
  go_ret
  exact ⟨by first | rfl | (simp; done) | (simp [*]; done) | (simp; rw [Bool.eq_iff_iff]; simp; done), by repeat (first | exact Drawn0.refl _ | apply Drawn0.step)⟩


/-! ### heat_Add: function 28 (own text) -/
section
/-- The bits of some NaN. -/
def isNan (v : Nat) : Prop := 9218868437227405312 < v % 9223372036854775808 ∧ v < 18446744073709551616
theorem isNan_cut (t : Nat) : isNan ((t % 2) * 2 ^ 63 + 0x7ff0000000000000 + 1 + (t / 2) % (2 ^ 52 - 1)) := by
  obtain ⟨p, hp⟩ : ∃ p, p = t % 2 := ⟨_, rfl⟩
  obtain ⟨q, hq⟩ : ∃ q, q = (t / 2) % (2 ^ 52 - 1) := ⟨_, rfl⟩
  have hq2 : q < 4503599627370495 := by rw [hq]; exact Nat.mod_lt _ (by decide)
  have hp2 : p = 0 ∨ p = 1 := by omega
  rw [← hp, ← hq]
  clear hp hq
  unfold isNan
  rcases hp2 with rfl | rfl <;> omega
/-- What 'x + y' may be: the sum; where there is none, any NaN. -/
def addOut (x y v : Nat) : Prop := Ieee.double.add x y = some v ∨ Ieee.double.add x y = none ∧ isNan v
theorem addRun (P : Program) (t : TypeId) (x y : Nat) (w : World) : ∃ v nd, (binOp .add t (.float .f64 x) (.float .f64 y)).run P w = .ok (.float .f64 v) (w.drewN nd) ∧ addOut x y v := by
  cases h : Ieee.double.add x y with
  | some r => exact ⟨r, 0, run_float_arith w .add t .f64 x y r h, .inl h⟩
  | none =>
    have h' : FloatKind.f64.format.add x y = none := h
    refine ⟨_, 1, by simp only [binOp, Op.floatArith, h', ne_eq, not_true_eq_false, if_false]; rfl, .inr ⟨h, ?_⟩⟩
    simp only [Question.cut]
    exact isNan_cut _
def addN (x y : Nat) : Nat := match Ieee.double.add x y with | some r => r | none => 9221120237041090561
theorem nanOrder (v : Nat) (h : isNan v) : FloatKind.f64.format.order v v = none := by
  have h2 : Ieee.double.read v = .nan (v / Ieee.double.signWeight % 2 == 1) (v % Ieee.double.signWeight - Ieee.double.infRung) := by
    have e1 : Ieee.double.signWeight = 9223372036854775808 := rfl
    have e2 : Ieee.double.infRung = 9218868437227405312 := rfl
    have e3 : Ieee.double.binade = 4503599627370496 := rfl
    unfold Ieee.Format.read
    obtain ⟨h1, _⟩ := h
    rw [e1, e2, e3]
    simp only
    rw [if_neg (by omega), if_neg (by omega), if_neg (by omega)]
  show (Ieee.double.read v).order (Ieee.double.read v) = none
  rw [h2]; rfl
theorem canonOut (x y v : Nat) (h : addOut x y v) : heat_Canon.f v = heat_Canon.f (addN x y) := by
  rcases h with h | ⟨h, hn⟩
  · unfold addN; rw [h]
  · have e1 : addN x y = 9221120237041090561 := by unfold addN; rw [h]
    rw [e1]
    unfold heat_Canon.f math_IsNaN.f
    rw [nanOrder v hn, nanOrder 9221120237041090561 (by unfold isNan; omega)]
    rfl
def heat_Add.f (a0 a1 : Nat) : Option Nat := heat_Canon.f (addN a0 a1)
set_option maxHeartbeats 4000000 in
set_option maxRecDepth 100000 in
theorem heat_Add.calls (a0 a1 r : Nat) (w : World) (h : heat_Add.f a0 a1 = some r) :
    Calls Try.prog 28 #[.float .f64 a0, .float .f64 a1] w fun e w' => e = .returned (.float .f64 r) ∧ Drawn0 w w' := by
  go_enter Try.func28, Try.ntmps28
  go_wp2_with fail
  obtain ⟨v, nd, he, hv⟩ := addRun Try.prog 24 a0 a1 w
  rw [he]
  simp only [Result.andThen]
  rw [Oper.upon_value]
  have hc : heat_Canon.f v = some r := (canonOut _ _ _ hv).trans h
  have HC := Aside0.mk hc
  clear hc hv he h
  go_wp2_with (first | (go_at_call 23; (with_reducible refine (heat_Canon.calls v r _ HC.out).mono ?_); rintro e w' ⟨rfl, ⟨nd2, rfl⟩⟩))
  go_ret
  exact ⟨rfl, by repeat (first | exact Drawn0.refl _ | apply Drawn0.step | exact ⟨_, World.drewN_drewN _ _ _⟩)⟩
end

/-! ### math_Copysign: function 29 -/
def math_Copysign.f (a0 : Nat) (a1 : Nat) : Option (Nat) := some ((Go.bits .or .u64 (Go.bits .andNot .u64 (a0 : Int) 9223372036854775808) (Go.bits .and .u64 (a1 : Int) 9223372036854775808)).toNat)
set_option maxHeartbeats 40000000 in
set_option maxRecDepth 100000 in
theorem math_Copysign.calls (a0 : Nat) (a1 : Nat) (r : Nat) (w : World) (h : math_Copysign.f a0 a1 = some r) :
    Calls Try.prog 29 #[.float .f64 a0, .float .f64 a1] w fun e w' => e = .returned (.float .f64 r) ∧ Drawn0 w w' := by
  have H : (some ((Go.bits .or .u64 (Go.bits .andNot .u64 (a0 : Int) 9223372036854775808) (Go.bits .and .u64 (a1 : Int) 9223372036854775808)).toNat)) = some r := h
  clear h
  obtain rfl := Option.some.inj H
  have hxt10 : ∀ (b_ : Int) (w_ : World), (callFunc 10 #[.int .u64 b_]).run Try.prog w_ = .ok (.value (.float .f64 b_.toNat)) w_ := fun b_ w_ => by rw [run_callFunc_extern (fn := Try.f10) (e := Extern.MathFloatBits.float64frombits) (by kernel_rfl) (by rfl) (by rfl) (by kernel_rfl) (by kernel_rfl)]; rfl
  have hxt20 : ∀ (b_ : Nat) (w_ : World), (callFunc 20 #[.float .f64 b_]).run Try.prog w_ = .ok (.value (.int .u64 (b_ : Int))) w_ := fun b_ w_ => by rw [run_callFunc_extern (fn := Try.f20) (e := Extern.MathFloatBits.float64bits) (by kernel_rfl) (by rfl) (by rfl) (by kernel_rfl) (by kernel_rfl)]; rfl
  go_enter Try.func29, Try.ntmps29
  go_wp2
  go_ret
  exact ⟨by first | rfl | (simp; done) | (simp [*]; done) | (simp; rw [Bool.eq_iff_iff]; simp; done), by repeat (first | exact Drawn0.refl _ | apply Drawn0.step)⟩

/-! ### math_Abs: function 41 -/
def math_Abs.f (a0 : Nat) : Option (Nat) := some ((Go.bits .andNot .u64 (a0 : Int) 9223372036854775808).toNat)
set_option maxHeartbeats 40000000 in
set_option maxRecDepth 100000 in
theorem math_Abs.calls (a0 : Nat) (r : Nat) (w : World) (h : math_Abs.f a0 = some r) :
    Calls Try.prog 41 #[.float .f64 a0] w fun e w' => e = .returned (.float .f64 r) ∧ Drawn0 w w' := by
  have H : (some ((Go.bits .andNot .u64 (a0 : Int) 9223372036854775808).toNat)) = some r := h
  clear h
  obtain rfl := Option.some.inj H
  have hxt10 : ∀ (b_ : Int) (w_ : World), (callFunc 10 #[.int .u64 b_]).run Try.prog w_ = .ok (.value (.float .f64 b_.toNat)) w_ := fun b_ w_ => by rw [run_callFunc_extern (fn := Try.f10) (e := Extern.MathFloatBits.float64frombits) (by kernel_rfl) (by rfl) (by rfl) (by kernel_rfl) (by kernel_rfl)]; rfl
  have hxt20 : ∀ (b_ : Nat) (w_ : World), (callFunc 20 #[.float .f64 b_]).run Try.prog w_ = .ok (.value (.int .u64 (b_ : Int))) w_ := fun b_ w_ => by rw [run_callFunc_extern (fn := Try.f20) (e := Extern.MathFloatBits.float64bits) (by kernel_rfl) (by rfl) (by rfl) (by kernel_rfl) (by kernel_rfl)]; rfl
  go_enter Try.func41, Try.ntmps41
  go_wp2
  go_ret
  exact ⟨by first | rfl | (simp; done) | (simp [*]; done) | (simp; rw [Bool.eq_iff_iff]; simp; done), by repeat (first | exact Drawn0.refl _ | apply Drawn0.step)⟩

/-! ### math_IsInf: function 31 -/
def math_IsInf.f (a0 : Nat) (a1 : Int) : Option (Bool) := if a1 = 0 then ((math_Abs.f a0).bind fun t172 => (some (FloatKind.f64.format.order t172 9218868437227405311 == some .gt))) else (if a1 < 0 then (some (FloatKind.f64.format.order (Go.Op.negFloat .f64 a0) 9218868437227405311 == some .gt)) else (some (FloatKind.f64.format.order a0 9218868437227405311 == some .gt)))
set_option maxHeartbeats 40000000 in
set_option maxRecDepth 100000 in
theorem math_IsInf.calls (a0 : Nat) (a1 : Int) (r : Bool) (w : World) (h : math_IsInf.f a0 a1 = some r) :
    Calls Try.prog 31 #[.float .f64 a0, .int .i64 a1] w fun e w' => e = .returned (.bool r) ∧ Drawn0 w w' := by
  have H : (if a1 = 0 then ((math_Abs.f a0).bind fun t172 => (some (FloatKind.f64.format.order t172 9218868437227405311 == some .gt))) else (if a1 < 0 then (some (FloatKind.f64.format.order (Go.Op.negFloat .f64 a0) 9218868437227405311 == some .gt)) else (some (FloatKind.f64.format.order a0 9218868437227405311 == some .gt)))) = some r := h
  clear h
  by_cases c3 : a1 = 0
  · rw [if_pos c3] at H
    have c3b0 : (a1 == 0) = true := beq_iff_eq.mpr c3
    have c3b1 : (a1 != 0) = false := bne_eq_false_iff_eq.mpr c3
    clear c3
    replace H := Option.bind_eq_some_iff.mp H
    obtain ⟨t172, A40, H⟩ := H
    replace H : (some (FloatKind.f64.format.order t172 9218868437227405311 == some .gt)) = some r := H
    have A4 := Aside0.mk A40
    clear A40
    obtain rfl := Option.some.inj H
    go_enter Try.func31, Try.ntmps31
    go_wp2_with (first | ((with_reducible refine gate_callee (f := 41) rfl ?_); refine goesL_ (some 8) rfl rfl Try.func41 (by kernel_rfl) rfl #[.float .f64 a0] rfl (by (try simp only [List.map_toArray, List.map_cons, List.map_nil]); first | done | rfl | (simp only [List.length_drop, List.length_take]; rfl)) ?_; (with_reducible refine (math_Abs.calls a0 t172 _ A4.out).mono ?_); rintro e w' ⟨rfl, ⟨nd, rfl⟩⟩; refine ⟨_, rfl, ?_⟩))
    go_ret
    exact ⟨by first | rfl | (simp; done) | (simp [*]; done) | (simp; rw [Bool.eq_iff_iff]; simp; done), by repeat (first | exact Drawn0.refl _ | apply Drawn0.step)⟩
  · rw [if_neg c3] at H
    have c3b0 : (a1 == 0) = false := beq_eq_false_iff_ne.mpr c3
    have c3b1 : (a1 != 0) = true := bne_iff_ne.mpr c3
    by_cases c5 : a1 < 0
    · rw [if_pos c5] at H
      have c5b0 : decide (a1 < 0) = true := decide_eq_true c5
      clear c5
      obtain rfl := Option.some.inj H
      go_enter Try.func31, Try.ntmps31
      go_wp2
      go_ret
      exact ⟨by first | rfl | (simp; done) | (simp [*]; done) | (simp; rw [Bool.eq_iff_iff]; simp; done), by repeat (first | exact Drawn0.refl _ | apply Drawn0.step)⟩
    · rw [if_neg c5] at H
      have c5b0 : decide (a1 < 0) = false := decide_eq_false c5
      clear c5
      obtain rfl := Option.some.inj H
      go_enter Try.func31, Try.ntmps31
      go_wp2
      go_ret
      exact ⟨by first | rfl | (simp; done) | (simp [*]; done) | (simp; rw [Bool.eq_iff_iff]; simp; done), by repeat (first | exact Drawn0.refl _ | apply Drawn0.step)⟩

end Go.Proofs.Ytiikmomjggcdfaa.PA
