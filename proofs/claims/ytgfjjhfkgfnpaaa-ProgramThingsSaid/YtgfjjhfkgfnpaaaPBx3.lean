-- Written by this session's own program wip/bin/dprint.py, over the kit's print.py, with own texts for some functions: no print of print.sh's
import Derived.Test.YtgfjjhfkgfnpaaaPBx0
import Derived.Test.YtgfjjhfkgfnpaaaPBx2
import Derived.Test.YtgfjjhfkgfnpaaaUps
namespace Go.Proofs.Ytgfjjhfkgfnpaaa.PB
open Go.RowKit Go.Proofs.YtgfjjhfkgfnpaaaW.PrintWords Go.Proofs.YtgfjjhfkgfnpaaaW.PrintLast Go.Proofs.YtgfjjhfkgfnpaaaW.PrintMore
attribute [local go_sem] max2_int min2_int max_two min_two max_three min_three max_four min_four   -- for this text's walks alone
set_option linter.unusedVariables false
set_option linter.unusedSimpArgs false

/-! ### heat_Canon: function 49 -/
def heat_Canon.f (a0 : Nat) : Option (Nat):=(math_IsNaN.f a0).bind fun t103 => (if t103 = true then (some ((9221120237041090561 : Int).toNat)) else (some a0))
set_option maxHeartbeats 40000000 in
set_option maxRecDepth 100000 in
theorem heat_Canon.calls (a0 : Nat) (r : Nat) (w : World) (h : heat_Canon.f a0 = some r) :
  Calls Try.prog 49 #[.float .f64 a0] w fun e w' => e = .returned (.float .f64 r) ∧ Drawn0 w w':=by
 (have H : ((math_IsNaN.f a0).bind fun t103 => (if t103 = true then (some ((9221120237041090561 : Int).toNat)) else (some a0))) = some r:=h);clear h;replace H:=Option.bind_eq_some_iff.mp H;obtain ⟨t103,A20,H⟩:=H;replace H : (if t103 = true then (some ((9221120237041090561 : Int).toNat)) else (some a0)) = some r:=H;have A2:=am A20;clear A20;(by_cases c3 : t103 = true)
 ·subst c3;(have H1 : (some ((9221120237041090561 : Int).toNat)) = some r:=by rw [if_pos rfl] at H;exact H);clear H;have H:=H1;clear H1;obtain rfl:=Option.some.inj H;(have hxt55 : ∀ (b_ : Int) (w_ : World),(callFunc 55 #[.int .u64 b_]).run Try.prog w_ = .ok (.value (.float .f64 b_.toNat)) w_:=fun b_ w_ => by rw [run_callFunc_extern (fn:=Try.f55) (e:=Extern.MathFloatBits.float64frombits) (by kernel_rfl) (by rfl) (by rfl) (by kernel_rfl) (by kernel_rfl)];rfl);(go_enter Try.func49,Try.ntmps49);(go_wp2_with (first | ((with_reducible refine gate_callee (f:=54) rfl ?_);refine goesL_ (some 4) rfl rfl Try.func54 (by kernel_rfl) rfl #[.float .f64 a0] rfl (by (try simp only [List.map_toArray,List.map_cons,List.map_nil]);first | done | rfl | (simp only [List.length_drop,List.length_take];rfl)) ?_;(with_reducible refine (math_IsNaN.calls a0 true _ A2.out).mono ?_);rintro e w' ⟨rfl,⟨nd,rfl⟩⟩;refine ⟨_,rfl,?_⟩)));(go_ret);(exact ⟨by first | rfl | (simp;done) | (simp [*];done) | (simp;rw [Bool.eq_iff_iff];simp;done),by repeat (first | exact Drawn0.refl _ | apply Drawn0.step)⟩)
 ·replace c3:=Bool.eq_false_iff.mpr c3;subst c3;(have H1 : (some a0) = some r:=by rw [if_neg (show ¬ (false = true) by decide)] at H;exact H);clear H;have H:=H1;clear H1;obtain rfl:=Option.some.inj H;(have hxt55 : ∀ (b_ : Int) (w_ : World),(callFunc 55 #[.int .u64 b_]).run Try.prog w_ = .ok (.value (.float .f64 b_.toNat)) w_:=fun b_ w_ => by rw [run_callFunc_extern (fn:=Try.f55) (e:=Extern.MathFloatBits.float64frombits) (by kernel_rfl) (by rfl) (by rfl) (by kernel_rfl) (by kernel_rfl)];rfl);(go_enter Try.func49,Try.ntmps49);(go_wp2_with (first | ((with_reducible refine gate_callee (f:=54) rfl ?_);refine goesL_ (some 4) rfl rfl Try.func54 (by kernel_rfl) rfl #[.float .f64 a0] rfl (by (try simp only [List.map_toArray,List.map_cons,List.map_nil]);first | done | rfl | (simp only [List.length_drop,List.length_take];rfl)) ?_;(with_reducible refine (math_IsNaN.calls a0 false _ A2.out).mono ?_);rintro e w' ⟨rfl,⟨nd,rfl⟩⟩;refine ⟨_,rfl,?_⟩)));(go_ret);(exact ⟨by first | rfl | (simp;done) | (simp [*];done) | (simp;rw [Bool.eq_iff_iff];simp;done),by repeat (first | exact Drawn0.refl _ | apply Drawn0.step)⟩)

/-! ### heat_Bits: function 39 -/
def heat_Bits.f (a0 : Nat) : Option (Int):=(heat_Canon.f a0).bind fun t104 => (some (t104 : Int))
set_option maxHeartbeats 40000000 in
set_option maxRecDepth 100000 in
theorem heat_Bits.calls (a0 : Nat) (r : Int) (w : World) (h : heat_Bits.f a0 = some r) :
  Calls Try.prog 39 #[.float .f64 a0] w fun e w' => e = .returned (.int .u64 r) ∧ Drawn0 w w':=by
 (have H : ((heat_Canon.f a0).bind fun t104 => (some (t104 : Int))) = some r:=h);clear h;replace H:=Option.bind_eq_some_iff.mp H;obtain ⟨t104,A20,H⟩:=H;replace H : (some (t104 : Int)) = some r:=H;have A2:=am A20;clear A20;obtain rfl:=Option.some.inj H;(have hxt48 : ∀ (b_ : Nat) (w_ : World),(callFunc 48 #[.float .f64 b_]).run Try.prog w_ = .ok (.value (.int .u64 (b_ : Int))) w_:=fun b_ w_ => by rw [run_callFunc_extern (fn:=Try.f48) (e:=Extern.MathFloatBits.float64bits) (by kernel_rfl) (by rfl) (by rfl) (by kernel_rfl) (by kernel_rfl)];rfl);(go_enter Try.func39,Try.ntmps39);(go_wp2_with (first | ((with_reducible refine gate_callee (f:=49) rfl ?_);refine goesL_ (some 4) rfl rfl Try.func49 (by kernel_rfl) rfl #[.float .f64 a0] rfl (by (try simp only [List.map_toArray,List.map_cons,List.map_nil]);first | done | rfl | (simp only [List.length_drop,List.length_take];rfl)) ?_;(with_reducible refine (heat_Canon.calls a0 t104 _ A2.out).mono ?_);rintro e w' ⟨rfl,⟨nd,rfl⟩⟩;refine ⟨_,rfl,?_⟩)));(go_ret);(exact ⟨by first | rfl | (simp;done) | (simp [*];done) | (simp;rw [Bool.eq_iff_iff];simp;done),by repeat (first | exact Drawn0.refl _ | apply Drawn0.step)⟩)

end Go.Proofs.Ytgfjjhfkgfnpaaa.PB
