-- Written by this session's own program wip/bin/dprint.py, over the kit's print.py, with own texts for some functions: no print of print.sh's
import Derived.Test.YtlboglbgdjakmaaPBx0
import Derived.Test.YtlboglbgdjakmaaUps
namespace Go.Proofs.Ytlboglbgdjakmaa.PB
open Go.RowKit Go.Proofs.YtlboglbgdjakmaaW.PrintWords Go.Proofs.YtlboglbgdjakmaaW.PrintLast Go.Proofs.YtlboglbgdjakmaaW.PrintMore
attribute [local go_sem] max2_int min2_int max_two min_two max_three min_three max_four min_four   -- for this text's walks alone
set_option linter.unusedVariables false
set_option linter.unusedSimpArgs false

/-! ### dowserlaw01_Cut: function 13 -/
def dowserlaw01_Cut.f (a0 : ByteArray) (a1 : Int) : Option (ByteArray):=if (a0.size : Int) > a1 then (if 0 ≤ a1 then (if a1 ≤ (a0.size : Int) then (some (a0.extract 0 (a1 : Int).toNat)) else (none)) else (none)) else (some a0)
set_option maxHeartbeats 40000000 in
set_option maxRecDepth 100000 in
theorem dowserlaw01_Cut.calls (a0 : ByteArray) (a1 : Int) (r : ByteArray) (w : World) (h : dowserlaw01_Cut.f a0 a1 = some r) :
  Calls Try.prog 13 #[.string a0,.int .i64 a1] w fun e w' => e = .returned (.string r) ∧ Drawn0 w w':=by
 have H : (if (a0.size : Int) > a1 then (if 0 ≤ a1 then (if a1 ≤ (a0.size : Int) then (some (a0.extract 0 (a1 : Int).toNat)) else (none)) else (none)) else (some a0)) = some r:=h;clear h;(by_cases c3 : (a0.size : Int) > a1)
 ·rw [if_pos c3] at H;have c3b0 : decide (a1 < (a0.size : Int)) = true:=decide_eq_true c3;clear c3;(by_cases c4 : 0 ≤ a1)
  ·rw [if_pos c4] at H;have c4b0:=eq_true c4;have c4b1 : decide (0 ≤ a1) = true:=decide_eq_true c4;clear c4;(by_cases c5 : a1 ≤ (a0.size : Int))
   ·rw [if_pos c5] at H;have c5b0:=eq_true c5;have c5b1 : decide (a1 ≤ (a0.size : Int)) = true:=decide_eq_true c5;clear c5;obtain rfl:=Option.some.inj H;(go_enter Try.func13,Try.ntmps13);(go_wp2);(go_ret);(exact ⟨by first | rfl | (simp;done) | (simp [*];done) | (simp;rw [Bool.eq_iff_iff];simp;done),by repeat (first | exact Drawn0.refl _ | apply Drawn0.step)⟩)
   ·rw [if_neg c5] at H;(exact absurd H (by simp))
  ·rw [if_neg c4] at H;(exact absurd H (by simp))
 ·rw [if_neg c3] at H;have c3b0 : decide (a1 < (a0.size : Int)) = false:=decide_eq_false c3;clear c3;obtain rfl:=Option.some.inj H;(go_enter Try.func13,Try.ntmps13);(go_wp2);(go_ret);(exact ⟨by first | rfl | (simp;done) | (simp [*];done) | (simp;rw [Bool.eq_iff_iff];simp;done),by repeat (first | exact Drawn0.refl _ | apply Drawn0.step)⟩)

end Go.Proofs.Ytlboglbgdjakmaa.PB
