-- Written by this session's own program wip/bin/dprint.py, over the kit's print.py, with own texts for some functions: no print of print.sh's
import Derived.Test.YtiikmomjggcdfaaPAx0
import Derived.Test.YtiikmomjggcdfaaPAx1
import Derived.Test.YtiikmomjggcdfaaPAx4
import Derived.Test.YtiikmomjggcdfaaPAx14
namespace Go.Proofs.Ytiikmomjggcdfaa.PA
open Go.RowKit Go.Proofs.YtiikmomjggcdfaaW.PrintWords Go.Proofs.YtiikmomjggcdfaaW.PrintLast Go.Proofs.YtiikmomjggcdfaaW.PrintMore
attribute [local go_sem] max2_int min2_int max_two min_two max_three min_three max_four min_four   -- for this text's walks alone
set_option linter.unusedVariables false
set_option linter.unusedSimpArgs false

/-! ### dowserref03_Key: function 25 -/
def dowserref03_Key.f (a0 : Nat) : Option (Int) := (dowserref03_Not.f a0).bind fun t177 => (if t177 = true then (some 0) else ((dowserref03_minus.f a0).bind fun t178 => (if t178 = true then (some (IntKind.u64.wrap ((IntKind.u64.wrap (18442240474082181120 - (a0 : Int))) + 1))) else (some (IntKind.u64.wrap ((IntKind.u64.wrap (9218868437227405313 + (a0 : Int))) + 1))))))
set_option maxHeartbeats 40000000 in
set_option maxRecDepth 100000 in
theorem dowserref03_Key.calls (a0 : Nat) (r : Int) (w : World) (h : dowserref03_Key.f a0 = some r) :
    Calls Try.prog 25 #[.float .f64 a0] w fun e w' => e = .returned (.int .u64 r) ∧ Drawn0 w w' := by
  have H : ((dowserref03_Not.f a0).bind fun t177 => (if t177 = true then (some 0) else ((dowserref03_minus.f a0).bind fun t178 => (if t178 = true then (some (IntKind.u64.wrap ((IntKind.u64.wrap (18442240474082181120 - (a0 : Int))) + 1))) else (some (IntKind.u64.wrap ((IntKind.u64.wrap (9218868437227405313 + (a0 : Int))) + 1))))))) = some r := h
  clear h
  replace H := Option.bind_eq_some_iff.mp H
  obtain ⟨t177, A20, H⟩ := H
  replace H : (if t177 = true then (some 0) else ((dowserref03_minus.f a0).bind fun t178 => (if t178 = true then (some (IntKind.u64.wrap ((IntKind.u64.wrap (18442240474082181120 - (a0 : Int))) + 1))) else (some (IntKind.u64.wrap ((IntKind.u64.wrap (9218868437227405313 + (a0 : Int))) + 1)))))) = some r := H
  have A2 := Aside0.mk A20
  clear A20
  by_cases c3 : t177 = true
  · subst c3
    have H1 : (some 0) = some r := by rw [if_pos rfl] at H; exact H
    clear H
    have H := H1
    clear H1
    obtain rfl := Option.some.inj H
    have hxt20 : ∀ (b_ : Nat) (w_ : World), (callFunc 20 #[.float .f64 b_]).run Try.prog w_ = .ok (.value (.int .u64 (b_ : Int))) w_ := fun b_ w_ => by rw [run_callFunc_extern (fn := Try.f20) (e := Extern.MathFloatBits.float64bits) (by kernel_rfl) (by rfl) (by rfl) (by kernel_rfl) (by kernel_rfl)]; rfl
    go_enter Try.func25, Try.ntmps25
    go_wp2_with (first | ((with_reducible refine gate_callee (f := 27) rfl ?_); refine goesL_ (some 7) rfl rfl Try.func27 (by kernel_rfl) rfl #[.float .f64 a0] rfl (by (try simp only [List.map_toArray, List.map_cons, List.map_nil]); first | done | rfl | (simp only [List.length_drop, List.length_take]; rfl)) ?_; (with_reducible refine (dowserref03_Not.calls a0 true _ A2.out).mono ?_); rintro e w' ⟨rfl, ⟨nd, rfl⟩⟩; refine ⟨_, rfl, ?_⟩))
    go_ret
    exact ⟨by first | rfl | (simp; done) | (simp [*]; done) | (simp; rw [Bool.eq_iff_iff]; simp; done), by repeat (first | exact Drawn0.refl _ | apply Drawn0.step)⟩
  · replace c3 := Bool.eq_false_iff.mpr c3
    subst c3
    have H1 : ((dowserref03_minus.f a0).bind fun t178 => (if t178 = true then (some (IntKind.u64.wrap ((IntKind.u64.wrap (18442240474082181120 - (a0 : Int))) + 1))) else (some (IntKind.u64.wrap ((IntKind.u64.wrap (9218868437227405313 + (a0 : Int))) + 1))))) = some r := by rw [if_neg (show ¬ (false = true) by decide)] at H; exact H
    clear H
    have H := H1
    clear H1
    replace H := Option.bind_eq_some_iff.mp H
    obtain ⟨t178, A40, H⟩ := H
    replace H : (if t178 = true then (some (IntKind.u64.wrap ((IntKind.u64.wrap (18442240474082181120 - (a0 : Int))) + 1))) else (some (IntKind.u64.wrap ((IntKind.u64.wrap (9218868437227405313 + (a0 : Int))) + 1)))) = some r := H
    have A4 := Aside0.mk A40
    clear A40
    by_cases c5 : t178 = true
    · subst c5
      have H1 : (some (IntKind.u64.wrap ((IntKind.u64.wrap (18442240474082181120 - (a0 : Int))) + 1))) = some r := by rw [if_pos rfl] at H; exact H
      clear H
      have H := H1
      clear H1
      obtain rfl := Option.some.inj H
      have hxt20 : ∀ (b_ : Nat) (w_ : World), (callFunc 20 #[.float .f64 b_]).run Try.prog w_ = .ok (.value (.int .u64 (b_ : Int))) w_ := fun b_ w_ => by rw [run_callFunc_extern (fn := Try.f20) (e := Extern.MathFloatBits.float64bits) (by kernel_rfl) (by rfl) (by rfl) (by kernel_rfl) (by kernel_rfl)]; rfl
      go_enter Try.func25, Try.ntmps25
      go_wp2_with (first | ((with_reducible refine gate_callee (f := 27) rfl ?_); refine goesL_ (some 7) rfl rfl Try.func27 (by kernel_rfl) rfl #[.float .f64 a0] rfl (by (try simp only [List.map_toArray, List.map_cons, List.map_nil]); first | done | rfl | (simp only [List.length_drop, List.length_take]; rfl)) ?_; (with_reducible refine (dowserref03_Not.calls a0 false _ A2.out).mono ?_); rintro e w' ⟨rfl, ⟨nd, rfl⟩⟩; refine ⟨_, rfl, ?_⟩) | ((with_reducible refine gate_callee (f := 40) rfl ?_); refine goesL_ (some 9) rfl rfl Try.func40 (by kernel_rfl) rfl #[.float .f64 a0] rfl (by (try simp only [List.map_toArray, List.map_cons, List.map_nil]); first | done | rfl | (simp only [List.length_drop, List.length_take]; rfl)) ?_; (with_reducible refine (dowserref03_minus.calls a0 true _ A4.out).mono ?_); rintro e w' ⟨rfl, ⟨nd, rfl⟩⟩; refine ⟨_, rfl, ?_⟩))
      go_ret
      exact ⟨by first | rfl | (simp; done) | (simp [*]; done) | (simp; rw [Bool.eq_iff_iff]; simp; done), by repeat (first | exact Drawn0.refl _ | apply Drawn0.step)⟩
    · replace c5 := Bool.eq_false_iff.mpr c5
      subst c5
      have H1 : (some (IntKind.u64.wrap ((IntKind.u64.wrap (9218868437227405313 + (a0 : Int))) + 1))) = some r := by rw [if_neg (show ¬ (false = true) by decide)] at H; exact H
      clear H
      have H := H1
      clear H1
      obtain rfl := Option.some.inj H
      have hxt20 : ∀ (b_ : Nat) (w_ : World), (callFunc 20 #[.float .f64 b_]).run Try.prog w_ = .ok (.value (.int .u64 (b_ : Int))) w_ := fun b_ w_ => by rw [run_callFunc_extern (fn := Try.f20) (e := Extern.MathFloatBits.float64bits) (by kernel_rfl) (by rfl) (by rfl) (by kernel_rfl) (by kernel_rfl)]; rfl
      go_enter Try.func25, Try.ntmps25
      go_wp2_with (first | ((with_reducible refine gate_callee (f := 27) rfl ?_); refine goesL_ (some 7) rfl rfl Try.func27 (by kernel_rfl) rfl #[.float .f64 a0] rfl (by (try simp only [List.map_toArray, List.map_cons, List.map_nil]); first | done | rfl | (simp only [List.length_drop, List.length_take]; rfl)) ?_; (with_reducible refine (dowserref03_Not.calls a0 false _ A2.out).mono ?_); rintro e w' ⟨rfl, ⟨nd, rfl⟩⟩; refine ⟨_, rfl, ?_⟩) | ((with_reducible refine gate_callee (f := 40) rfl ?_); refine goesL_ (some 9) rfl rfl Try.func40 (by kernel_rfl) rfl #[.float .f64 a0] rfl (by (try simp only [List.map_toArray, List.map_cons, List.map_nil]); first | done | rfl | (simp only [List.length_drop, List.length_take]; rfl)) ?_; (with_reducible refine (dowserref03_minus.calls a0 false _ A4.out).mono ?_); rintro e w' ⟨rfl, ⟨nd, rfl⟩⟩; refine ⟨_, rfl, ?_⟩))
      go_ret
      exact ⟨by first | rfl | (simp; done) | (simp [*]; done) | (simp; rw [Bool.eq_iff_iff]; simp; done), by repeat (first | exact Drawn0.refl _ | apply Drawn0.step)⟩

/-! ### heat_From: function 26 -/
def heat_From.j0 : Nat → Int → Int → Option (Nat)
  | 0, _, _ => none
  | k + 1, x0, x3 => (heat_Of.f x3).bind fun t179 => (if x0 = 0 then ((heat_Of.f 9221120237041090561).bind fun t180 => (some t180)) else ((heat_Key.f t179).bind fun t181 => (if t181 = x0 then (some t179) else ((heat_Of.f 9221120237041090561).bind fun t182 => (some t182)))))
def heat_From.f (k : Nat) (a0 : Int) : Option (Nat) := if (Go.bits .and .u64 (IntKind.u64.wrap (a0 + 4503599627370494)) 9223372036854775808) = 0 then (heat_From.j0 k a0 (Go.bits .xor .u64 18446744073709551615 (IntKind.u64.wrap (a0 + 4503599627370494)))) else (heat_From.j0 k a0 (Go.bits .xor .u64 (IntKind.u64.wrap (a0 + 4503599627370494)) 9223372036854775808))
theorem heat_From.mono_l : ∀ k, (∀ y0 y1, LeO (heat_From.j0 k y0 y1) (heat_From.j0 (k + 1) y0 y1))
  | 0 => fun _ _ r h => by simp [heat_From.j0] at h
  | k + 1 => by
    have ih0 := heat_From.mono_l k
    · intro y0 y1
      unfold heat_From.j0
      repeat' first
      | (with_reducible exact ih0 _ _)
      | (with_reducible exact LeO.refl _)
      | (with_reducible exact LeO.none _)
      | (with_reducible refine LeO.ite ?_ ?_)
      | (with_reducible refine LeO.bind ?_ (fun _ => ?_))
      | exact ih0 _ _
      | exact LeO.none _
      | refine LeO.ite ?_ ?_
      | refine LeO.bind ?_ (fun _ => ?_)
theorem heat_From.mono : ∀ a0 k, LeO (heat_From.f k a0) (heat_From.f (k + 1) a0) := by
  intro a0 k
  have ih0 := heat_From.mono_l k
  unfold heat_From.f
  repeat' first
      | (with_reducible exact ih0 _ _)
      | (with_reducible exact LeO.refl _)
      | (with_reducible exact LeO.none _)
      | (with_reducible refine LeO.ite ?_ ?_)
      | (with_reducible refine LeO.bind ?_ (fun _ => ?_))
      | exact ih0 _ _
      | exact LeO.none _
      | refine LeO.ite ?_ ?_
      | refine LeO.bind ?_ (fun _ => ?_)
set_option maxHeartbeats 40000000 in
set_option maxRecDepth 100000 in
theorem heat_From.calls (k : Nat) (a0 : Int) (r : Nat) (w : World) (h : heat_From.f k a0 = some r) :
    Calls Try.prog 26 #[.int .u64 a0] w fun e w' => e = .returned (.float .f64 r) ∧ Drawn0 w w' := by
  have H : (if (Go.bits .and .u64 (IntKind.u64.wrap (a0 + 4503599627370494)) 9223372036854775808) = 0 then (heat_From.j0 k a0 (Go.bits .xor .u64 18446744073709551615 (IntKind.u64.wrap (a0 + 4503599627370494)))) else (heat_From.j0 k a0 (Go.bits .xor .u64 (IntKind.u64.wrap (a0 + 4503599627370494)) 9223372036854775808))) = some r := h
  clear h
  have HC2 := Aside0.mk H
  clear H
  go_enter Try.func26, Try.ntmps26
  go_upto_if 9 with (fail)
  go_cut [3] (fun v3 wc => ∃ (kq : Nat) (x3_1 : Int), v3 = .int .u64 x3_1 ∧ Aside0 (heat_From.j0 kq a0 x3_1 = some r) ∧ Aside0 (kq ≤ k) ∧ Drawn0 w wc)
  case first =>
    have H := HC2.out
    clear HC2
    by_cases c3 : (Go.bits .and .u64 (IntKind.u64.wrap (a0 + 4503599627370494)) 9223372036854775808) = 0
    · rw [if_pos c3] at H
      have c3b0 : ((Go.bits .and .u64 (IntKind.u64.wrap (a0 + 4503599627370494)) 9223372036854775808) == 0) = true := beq_iff_eq.mpr c3
      have c3b1 : ((Go.bits .and .u64 (IntKind.u64.wrap (a0 + 4503599627370494)) 9223372036854775808) != 0) = false := bne_eq_false_iff_eq.mpr c3
      clear c3
      (first | rw [c3b0] | (simp only [i64_w, i32_w]; rw [c3b0]) | skip)
      have H' := Aside0.mk H
      clear H
      go_wp2
      go_meet
      case rel => exact ⟨_, (Go.bits .xor .u64 18446744073709551615 (IntKind.u64.wrap (a0 + 4503599627370494))), (by first | rfl | (simp; done) | (simp [*]; done) | (simp; rw [Bool.eq_iff_iff]; simp; done)), H', ⟨by first | omega | exact Nat.le_refl _⟩, by repeat (first | exact Drawn0.refl _ | apply Drawn0.step)⟩
    · rw [if_neg c3] at H
      have c3b0 : ((Go.bits .and .u64 (IntKind.u64.wrap (a0 + 4503599627370494)) 9223372036854775808) == 0) = false := beq_eq_false_iff_ne.mpr c3
      have c3b1 : ((Go.bits .and .u64 (IntKind.u64.wrap (a0 + 4503599627370494)) 9223372036854775808) != 0) = true := bne_iff_ne.mpr c3
      (first | rw [c3b0] | (simp only [i64_w, i32_w]; rw [c3b0]) | skip)
      have H' := Aside0.mk H
      clear H
      go_wp2
      go_meet
      case rel => exact ⟨_, (Go.bits .xor .u64 (IntKind.u64.wrap (a0 + 4503599627370494)) 9223372036854775808), (by first | rfl | (simp; done) | (simp [*]; done) | (simp; rw [Bool.eq_iff_iff]; simp; done)), H', ⟨by first | omega | exact Nat.le_refl _⟩, by repeat (first | exact Drawn0.refl _ | apply Drawn0.step)⟩
  case rest =>
    clear HC2
    try clear c2
    try clear p2
    try clear c3
    try clear c3b0
    try clear c3b1
    obtain ⟨kq, x3_1, rfl, HA, HJ1, ⟨mc1, rfl⟩⟩ := hcut
    cases kq with
    | zero => exact absurd HA.out (by simp [heat_From.j0])
    | succ kj1 =>
      have H := HA.out
      clear HA
      simp only [heat_From.j0] at H
      replace H := Option.bind_eq_some_iff.mp H
      obtain ⟨t179, A40, H⟩ := H
      replace H : (if a0 = 0 then ((heat_Of.f 9221120237041090561).bind fun t180 => (some t180)) else ((heat_Key.f t179).bind fun t181 => (if t181 = a0 then (some t179) else ((heat_Of.f 9221120237041090561).bind fun t182 => (some t182))))) = some r := H
      have A4 := Aside0.mk A40
      clear A40
      by_cases c5 : a0 = 0
      · rw [if_pos c5] at H
        have c5b0 : (a0 == 0) = true := beq_iff_eq.mpr c5
        have c5b1 : (a0 != 0) = false := bne_eq_false_iff_eq.mpr c5
        clear c5
        replace H := Option.bind_eq_some_iff.mp H
        obtain ⟨t180, A60, H⟩ := H
        replace H : (some t180) = some r := H
        have A6 := Aside0.mk A60
        clear A60
        obtain rfl := Option.some.inj H
        go_wp2_with (first | ((with_reducible refine gate_callee (f := 24) rfl ?_); refine goesL_ (some 15) rfl rfl Try.func24 (by kernel_rfl) rfl #[.int .u64 x3_1] rfl (by (try simp only [List.map_toArray, List.map_cons, List.map_nil]); first | done | rfl | (simp only [List.length_drop, List.length_take]; rfl)) ?_; (with_reducible refine (heat_Of.calls x3_1 t179 _ A4.out).mono ?_); rintro e w' ⟨rfl, ⟨nd, rfl⟩⟩; refine ⟨_, rfl, ?_⟩) | ((with_reducible refine gate_callee (f := 24) rfl ?_); refine goesL_ (some 25) rfl rfl Try.func24 (by kernel_rfl) rfl #[.int .u64 9221120237041090561] rfl (by (try simp only [List.map_toArray, List.map_cons, List.map_nil]); first | done | rfl | (simp only [List.length_drop, List.length_take]; rfl)) ?_; (with_reducible refine (heat_Of.calls 9221120237041090561 t180 _ A6.out).mono ?_); rintro e w' ⟨rfl, ⟨nd, rfl⟩⟩; refine ⟨_, rfl, ?_⟩))
        go_ret
        exact ⟨by first | rfl | (simp; done) | (simp [*]; done) | (simp; rw [Bool.eq_iff_iff]; simp; done), by repeat (first | exact Drawn0.refl _ | apply Drawn0.step)⟩
      · rw [if_neg c5] at H
        have c5b0 : (a0 == 0) = false := beq_eq_false_iff_ne.mpr c5
        have c5b1 : (a0 != 0) = true := bne_iff_ne.mpr c5
        replace H := Option.bind_eq_some_iff.mp H
        obtain ⟨t181, A70, H⟩ := H
        replace H : (if t181 = a0 then (some t179) else ((heat_Of.f 9221120237041090561).bind fun t182 => (some t182))) = some r := H
        have A7 := Aside0.mk A70
        clear A70
        by_cases c8 : t181 = a0
        · rw [if_pos c8] at H
          have c8b0 : (t181 == a0) = true := beq_iff_eq.mpr c8
          have c8b1 : (t181 != a0) = false := bne_eq_false_iff_eq.mpr c8
          clear c8
          obtain rfl := Option.some.inj H
          go_wp2_with (first | ((with_reducible refine gate_callee (f := 24) rfl ?_); refine goesL_ (some 15) rfl rfl Try.func24 (by kernel_rfl) rfl #[.int .u64 x3_1] rfl (by (try simp only [List.map_toArray, List.map_cons, List.map_nil]); first | done | rfl | (simp only [List.length_drop, List.length_take]; rfl)) ?_; (with_reducible refine (heat_Of.calls x3_1 t179 _ A4.out).mono ?_); rintro e w' ⟨rfl, ⟨nd, rfl⟩⟩; refine ⟨_, rfl, ?_⟩) | (go_at_call 17; (with_reducible refine (heat_Key.calls t179 t181 _ A7.out).mono ?_); rintro e w' ⟨rfl, ⟨nd, rfl⟩⟩))
          go_ret
          exact ⟨by first | rfl | (simp; done) | (simp [*]; done) | (simp; rw [Bool.eq_iff_iff]; simp; done), by repeat (first | exact Drawn0.refl _ | apply Drawn0.step)⟩
        · rw [if_neg c8] at H
          have c8b0 : (t181 == a0) = false := beq_eq_false_iff_ne.mpr c8
          have c8b1 : (t181 != a0) = true := bne_iff_ne.mpr c8
          replace H := Option.bind_eq_some_iff.mp H
          obtain ⟨t182, A90, H⟩ := H
          replace H : (some t182) = some r := H
          have A9 := Aside0.mk A90
          clear A90
          obtain rfl := Option.some.inj H
          go_wp2_with (first | ((with_reducible refine gate_callee (f := 24) rfl ?_); refine goesL_ (some 15) rfl rfl Try.func24 (by kernel_rfl) rfl #[.int .u64 x3_1] rfl (by (try simp only [List.map_toArray, List.map_cons, List.map_nil]); first | done | rfl | (simp only [List.length_drop, List.length_take]; rfl)) ?_; (with_reducible refine (heat_Of.calls x3_1 t179 _ A4.out).mono ?_); rintro e w' ⟨rfl, ⟨nd, rfl⟩⟩; refine ⟨_, rfl, ?_⟩) | (go_at_call 17; (with_reducible refine (heat_Key.calls t179 t181 _ A7.out).mono ?_); rintro e w' ⟨rfl, ⟨nd, rfl⟩⟩) | ((with_reducible refine gate_callee (f := 24) rfl ?_); refine goesL_ (some 25) rfl rfl Try.func24 (by kernel_rfl) rfl #[.int .u64 9221120237041090561] rfl (by (try simp only [List.map_toArray, List.map_cons, List.map_nil]); first | done | rfl | (simp only [List.length_drop, List.length_take]; rfl)) ?_; (with_reducible refine (heat_Of.calls 9221120237041090561 t182 _ A9.out).mono ?_); rintro e w' ⟨rfl, ⟨nd, rfl⟩⟩; refine ⟨_, rfl, ?_⟩))
          go_ret
          exact ⟨by first | rfl | (simp; done) | (simp [*]; done) | (simp; rw [Bool.eq_iff_iff]; simp; done), by repeat (first | exact Drawn0.refl _ | apply Drawn0.step)⟩

end Go.Proofs.Ytiikmomjggcdfaa.PA
