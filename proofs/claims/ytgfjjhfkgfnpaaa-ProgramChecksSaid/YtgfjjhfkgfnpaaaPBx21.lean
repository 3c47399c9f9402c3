-- Written by this session's own program wip/bin/dprint.py, over the kit's print.py, with own texts for some functions: no print of print.sh's
import Derived.Test.YtgfjjhfkgfnpaaaPBx0
import Derived.Test.YtgfjjhfkgfnpaaaUps
namespace Go.Proofs.Ytgfjjhfkgfnpaaa.PB
open Go.RowKit Go.Proofs.YtgfjjhfkgfnpaaaW.PrintWords Go.Proofs.YtgfjjhfkgfnpaaaW.PrintLast Go.Proofs.YtgfjjhfkgfnpaaaW.PrintMore
attribute [local go_sem] max2_int min2_int max_two min_two max_three min_three max_four min_four   -- for this text's walks alone
set_option linter.unusedVariables false
set_option linter.unusedSimpArgs false

/-! ### dowserref15_in: function 25 -/
def dowserref15_in.f (a0 : Int) (a1 : Int) : Option (Bool):=if a0 ≥ 0 then (some (decide (a0 < a1))) else (some false)
set_option maxHeartbeats 40000000 in
set_option maxRecDepth 100000 in
theorem dowserref15_in.calls (a0 : Int) (a1 : Int) (r : Bool) (w : World) (h : dowserref15_in.f a0 a1 = some r) :
  Calls Try.prog 25 #[.int .i64 a0,.int .i64 a1] w fun e w' => e = .returned (.bool r) ∧ Drawn0 w w':=by
 have H : (if a0 ≥ 0 then (some (decide (a0 < a1))) else (some false)) = some r:=h;clear h;(by_cases c3 : a0 ≥ 0)
 ·rw [if_pos c3] at H;have c3b0 : decide (0 ≤ a0) = true:=decide_eq_true c3;clear c3;obtain rfl:=Option.some.inj H;(go_enter Try.func25,Try.ntmps25);(go_wp2);(go_ret);(exact ⟨by first | rfl | (simp;done) | (simp [*];done) | (simp;rw [Bool.eq_iff_iff];simp;done),by repeat (first | exact Drawn0.refl _ | apply Drawn0.step)⟩)
 ·rw [if_neg c3] at H;have c3b0 : decide (0 ≤ a0) = false:=decide_eq_false c3;clear c3;obtain rfl:=Option.some.inj H;(go_enter Try.func25,Try.ntmps25);(go_wp2);(go_ret);(exact ⟨by first | rfl | (simp;done) | (simp [*];done) | (simp;rw [Bool.eq_iff_iff];simp;done),by repeat (first | exact Drawn0.refl _ | apply Drawn0.step)⟩)

/-! ### dowserref15_vars: function 26 -/
def dowserref15_vars.l0 : Nat → Int → List Int → Int → Int → Option (Bool)
 | 0,_,_,_,_ => none
 | k + 1,x1,x7,x8,x9 => if x9 < x8 then (if 0 ≤ x9 then (if x9 < (x7.length : Int) then ((dowserref15_in.f (rd x7 x9) x1).bind fun t212 => (if t212 = true then (dowserref15_vars.l0 k x1 x7 x8 (wrap64 (x9 + 1))) else (some false))) else (none)) else (none)) else (some true)
def dowserref15_vars.f (k : Nat) (l0 : List Int) (a1 : Int) : Option (Bool):=dowserref15_vars.l0 k a1 l0 (l0.length : Int) 0
theorem dowserref15_vars.mono_l : ∀ k,(∀ y0 y1 y2 y3,LeO (dowserref15_vars.l0 k y0 y1 y2 y3) (dowserref15_vars.l0 (k + 1) y0 y1 y2 y3))
 | 0 => fun _ _ _ _ r h => by simp [dowserref15_vars.l0] at h
 | k + 1 => by
  have ih0:=dowserref15_vars.mono_l k
  ·intro y0 y1 y2 y3;unfold dowserref15_vars.l0
   repeat' first
   | (with_reducible exact ih0 _ _ _ _)
   | (with_reducible exact LeO.refl _)
   | (with_reducible exact LeO.none _)
   | (with_reducible refine LeO.ite ?_ ?_)
   | (with_reducible refine LeO.bind ?_ (fun _ => ?_))
   | exact ih0 _ _ _ _
   | exact LeO.none _
   | refine LeO.ite ?_ ?_
   | refine LeO.bind ?_ (fun _ => ?_)
theorem dowserref15_vars.mono : ∀ a0 a1 k,LeO (dowserref15_vars.f k a0 a1) (dowserref15_vars.f (k + 1) a0 a1):=by
 intro a0 a1 k;have ih0:=dowserref15_vars.mono_l k;unfold dowserref15_vars.f
 repeat' first
   | (with_reducible exact ih0 _ _ _ _)
   | (with_reducible exact LeO.refl _)
   | (with_reducible exact LeO.none _)
   | (with_reducible refine LeO.ite ?_ ?_)
   | (with_reducible refine LeO.bind ?_ (fun _ => ?_))
   | exact ih0 _ _ _ _
   | exact LeO.none _
   | refine LeO.ite ?_ ?_
   | refine LeO.bind ?_ (fun _ => ?_)
set_option maxHeartbeats 40000000 in
set_option maxRecDepth 100000 in
theorem dowserref15_vars.calls (k : Nat) (A0 : Option Addr) (c0 : Nat) (l0 : List Int) (a1 : Int) (r : Bool) (w : World) (hr0 : Kd.C (Kd.int .i64) w A0 l0.length l0) (hc0 : l0.length ≤ c0) (h : dowserref15_vars.f k l0 a1 = some r) :
  Calls Try.prog 26 #[.slice A0 l0.length c0,.int .i64 a1] w fun e w' => e = .returned (.bool r) ∧ Drawn0 w w':=by
 have HR0:=am hr0;have HC0:=am hc0;clear hr0 hc0;have H : (dowserref15_vars.l0 k a1 l0 (l0.length : Int) 0) = some r:=h;clear h;have H':=am H;clear H;(go_enter Try.func26,Try.ntmps26);(go_wp2);(go_loopg [9] k (fun kq v9 w' => ∃ (x9_1 : Int),v9 = .int .i64 x9_1 ∧ Aside0 (dowserref15_vars.l0 kq a1 l0 (l0.length : Int) x9_1 = some r) ∧ Aside0 (kq ≤ k) ∧ Drawn0 w w'));(case atStart => exact ⟨(0),(by first | rfl | (simp;done) | (simp [*];done) | (simp;rw [Bool.eq_iff_iff];simp;done)),H',⟨Nat.le_refl _⟩,by repeat (first | exact Drawn0.refl _ | apply Drawn0.step)⟩)
 case round =>
  clear H';(try clear c2);(try clear p2);obtain ⟨x9_1,rfl,HA,HK1,⟨m1,rfl⟩⟩:=hrel
  cases gk with
  | zero => exact absurd HA.out (by simp [dowserref15_vars.l0])
  | succ k1 =>
   have H:=HA.out;clear HA;simp only [dowserref15_vars.l0] at H;(by_cases c3 : x9_1 < (l0.length : Int))
   ·rw [if_pos c3] at H;have c3b0 : decide (x9_1 < (l0.length : Int)) = true:=decide_eq_true c3;clear c3;(by_cases c4 : 0 ≤ x9_1)
    ·rw [if_pos c4] at H;have c4b0 : decide (0 ≤ x9_1) = true:=decide_eq_true c4;clear c4;(by_cases c5 : x9_1 < (l0.length : Int))
     ·rw [if_pos c5] at H;have c5b0 : decide (x9_1 < (l0.length : Int)) = true:=decide_eq_true c5;clear c5;replace H:=Option.bind_eq_some_iff.mp H;obtain ⟨t212,A60,H⟩:=H;replace H : (if t212 = true then (dowserref15_vars.l0 k1 a1 l0 (l0.length : Int) (wrap64 (x9_1 + 1))) else (some false)) = some r:=H;have A6:=am A60;clear A60;(by_cases c7 : t212 = true)
      ·subst c7;(have H1 : (dowserref15_vars.l0 k1 a1 l0 (l0.length : Int) (wrap64 (x9_1 + 1))) = some r:=by rw [if_pos rfl] at H;exact H);clear H;have H:=H1;clear H1;have H':=am H;clear H;(have p211 : 0 ≤ (x9_1 : Int):=of_decide_eq_true (by first | (with_reducible assumption) | assumption));(have q211 : x9_1 < (l0.length : Int):=of_decide_eq_true (by first | (with_reducible assumption) | assumption));obtain ⟨ad211,e211,hx211_0⟩:=Kd.at_int HR0.out x9_1 p211 q211;cases e211;replace p211:=eq_true p211;replace q211:=eq_true q211;(go_wp2_with (first | ((with_reducible refine gate_callee (f:=25) rfl ?_);refine goesL_ (some 15) rfl rfl Try.func25 (by kernel_rfl) rfl #[.int .i64 (rd l0 x9_1),.int .i64 a1] rfl (by (try simp only [List.map_toArray,List.map_cons,List.map_nil]);first | done | rfl | (simp only [List.length_drop,List.length_take];rfl)) ?_;(with_reducible refine (dowserref15_in.calls (rd l0 x9_1) a1 true _ A6.out).mono ?_);rintro e w' ⟨rfl,⟨nd,rfl⟩⟩;refine ⟨_,rfl,?_⟩)));(go_roundg k1);(case measure => have:=HK1.out;omega);(case rel => exact ⟨(wrap64 (x9_1 + 1)),(by first | rfl | (simp;done) | (simp [*];done) | (simp;rw [Bool.eq_iff_iff];simp;done)),H',⟨by have:=HK1.out;omega⟩,by repeat (first | exact Drawn0.refl _ | apply Drawn0.step)⟩)
      ·replace c7:=Bool.eq_false_iff.mpr c7;subst c7;(have H1 : (some false) = some r:=by rw [if_neg (show ¬ (false = true) by decide)] at H;exact H);clear H;have H:=H1;clear H1;obtain rfl:=Option.some.inj H;(have p211 : 0 ≤ (x9_1 : Int):=of_decide_eq_true (by first | (with_reducible assumption) | assumption));(have q211 : x9_1 < (l0.length : Int):=of_decide_eq_true (by first | (with_reducible assumption) | assumption));obtain ⟨ad211,e211,hx211_0⟩:=Kd.at_int HR0.out x9_1 p211 q211;cases e211;replace p211:=eq_true p211;replace q211:=eq_true q211;(go_wp2_with (first | ((with_reducible refine gate_callee (f:=25) rfl ?_);refine goesL_ (some 15) rfl rfl Try.func25 (by kernel_rfl) rfl #[.int .i64 (rd l0 x9_1),.int .i64 a1] rfl (by (try simp only [List.map_toArray,List.map_cons,List.map_nil]);first | done | rfl | (simp only [List.length_drop,List.length_take];rfl)) ?_;(with_reducible refine (dowserref15_in.calls (rd l0 x9_1) a1 false _ A6.out).mono ?_);rintro e w' ⟨rfl,⟨nd,rfl⟩⟩;refine ⟨_,rfl,?_⟩)));(go_ret);(exact ⟨by first | rfl | (simp;done) | (simp [*];done) | (simp;rw [Bool.eq_iff_iff];simp;done),by repeat (first | exact Drawn0.refl _ | apply Drawn0.step)⟩)
     ·rw [if_neg c5] at H;(exact absurd H (by simp))
    ·rw [if_neg c4] at H;(exact absurd H (by simp))
   ·rw [if_neg c3] at H;have c3b0 : decide (x9_1 < (l0.length : Int)) = false:=decide_eq_false c3;clear c3;obtain rfl:=Option.some.inj H;(go_wp2);(go_ret);(exact ⟨by first | rfl | (simp;done) | (simp [*];done) | (simp;rw [Bool.eq_iff_iff];simp;done),by repeat (first | exact Drawn0.refl _ | apply Drawn0.step)⟩)

/-! ### dowserref03_Not: function 53 -/
def dowserref03_Not.f (a0 : Nat) : Option (Bool):=if (Int.tmod (IntKind.u64.wrap ((a0 : Int) / 4503599627370496)) 2048) = 2047 then (some (decide (((a0 : Int) % 4503599627370496) > 0))) else (some false)
set_option maxHeartbeats 40000000 in
set_option maxRecDepth 100000 in
theorem dowserref03_Not.calls (a0 : Nat) (r : Bool) (w : World) (h : dowserref03_Not.f a0 = some r) :
  Calls Try.prog 53 #[.float .f64 a0] w fun e w' => e = .returned (.bool r) ∧ Drawn0 w w':=by
 have H : (if (Int.tmod (IntKind.u64.wrap ((a0 : Int) / 4503599627370496)) 2048) = 2047 then (some (decide (((a0 : Int) % 4503599627370496) > 0))) else (some false)) = some r:=h;clear h;(by_cases c2 : (Int.tmod (IntKind.u64.wrap ((a0 : Int) / 4503599627370496)) 2048) = 2047)
 ·rw [if_pos c2] at H;have c2b0 : ((Int.tmod (IntKind.u64.wrap ((a0 : Int) / 4503599627370496)) 2048) == 2047) = true:=beq_iff_eq.mpr c2;have c2b1 : ((Int.tmod (IntKind.u64.wrap ((a0 : Int) / 4503599627370496)) 2048) != 2047) = false:=bne_eq_false_iff_eq.mpr c2;clear c2;obtain rfl:=Option.some.inj H;(have hxt48 : ∀ (b_ : Nat) (w_ : World),(callFunc 48 #[.float .f64 b_]).run Try.prog w_ = .ok (.value (.int .u64 (b_ : Int))) w_:=fun b_ w_ => by rw [run_callFunc_extern (fn:=Try.f48) (e:=Extern.MathFloatBits.float64bits) (by kernel_rfl) (by rfl) (by rfl) (by kernel_rfl) (by kernel_rfl)];rfl);(go_enter Try.func53,Try.ntmps53);(go_wp2);(go_ret);(exact ⟨by first | rfl | (simp;done) | (simp [*];done) | (simp;rw [Bool.eq_iff_iff];simp;done),by repeat (first | exact Drawn0.refl _ | apply Drawn0.step)⟩)
 ·rw [if_neg c2] at H;have c2b0 : ((Int.tmod (IntKind.u64.wrap ((a0 : Int) / 4503599627370496)) 2048) == 2047) = false:=beq_eq_false_iff_ne.mpr c2;have c2b1 : ((Int.tmod (IntKind.u64.wrap ((a0 : Int) / 4503599627370496)) 2048) != 2047) = true:=bne_iff_ne.mpr c2;obtain rfl:=Option.some.inj H;(have hxt48 : ∀ (b_ : Nat) (w_ : World),(callFunc 48 #[.float .f64 b_]).run Try.prog w_ = .ok (.value (.int .u64 (b_ : Int))) w_:=fun b_ w_ => by rw [run_callFunc_extern (fn:=Try.f48) (e:=Extern.MathFloatBits.float64bits) (by kernel_rfl) (by rfl) (by rfl) (by kernel_rfl) (by kernel_rfl)];rfl);(go_enter Try.func53,Try.ntmps53);(go_wp2);(go_ret);(exact ⟨by first | rfl | (simp;done) | (simp [*];done) | (simp;rw [Bool.eq_iff_iff];simp;done),by repeat (first | exact Drawn0.refl _ | apply Drawn0.step)⟩)

end Go.Proofs.Ytgfjjhfkgfnpaaa.PB
